/-
  A library for proofs about Go functions by symbolic evaluation, and plain Lean functions that the walked Go functions compute (written by a program of this claim).
-/
import Derived.Test.YtifcnocpjdmaiaaPlansF1
namespace Go.Vc
open Go.Proofs
set_option linter.unusedVariables false
set_option linter.unnecessarySimpa false
set_option linter.unusedSimpArgs false
/- f66: tusche/cut.asked -/
def f66 (N : Nat) (a0 : Int) (a1 : Int) (a2 : List Kind) : Option (Int) :=
 (f52 N (1 : Int) a0 (12 : Int)).bind fun x1 =>
 bif !x1 then (some ((3 : Int)))
 else ((f52 N (1 : Int) a1 (12 : Int)).bind fun x2 =>
 bif !x2 then (some ((3 : Int)))
 else ((f48 N a2).bind fun x3 =>
 some (x3)))
def G66 (ds : List D) (d : D) : Prop := ∃ (N : Nat) (a0 : Int) (a1 : Int) (a2 : List Kind) (r : Int), ds = [iN a0, iN a1, sl_Kind a2] ∧ f66 N a0 a1 a2 = some r ∧ d = iN r
theorem G66.step {N : Nat} {a0 : Int} {a1 : Int} {a2 : List Kind} {ρ : Type} {A : Int → Option ρ} {q : ρ} {ds : List D} {K : D → Prop} (hd : ds = [iN a0, iN a1, sl_Kind a2]) (h : ∀ r, A r = some q → K (iN r)) (hF : (f66 N a0 a1 a2).bind A = some q) : ∃ d, G66 ds d ∧ K d := by
  obtain ⟨r, hr, hA⟩ := bind_some hF
  exact ⟨_, ⟨N, a0, a1, a2, r, hd, hr, rfl⟩, h r hA⟩
set_option maxRecDepth 20000 in
set_option maxHeartbeats 4000000 in
theorem P66 : PureOK Try.prog 66 G66 := by
  refine pure_of_vc (c := mkCtx tyTree [(52, true, purePg [[0], [0], [0]] G52), (48, true, purePg [[3]] G48)]) rfl tyOK (ctx_cons (callable Try.func52 rfl rfl) P52 (ctx_cons (callable Try.func48 rfl rfl) P48 (ctx_nil))) [[0]] 3 Try.func66 rfl rfl (by decide) (by kernel_rfl) ?_
  rintro ds d ⟨N, a0, a1, a2, r, rfl, hF, rfl⟩ hok
  clear hok
  refine ⟨rfl, ?_⟩
  show vc _ _ _ _ ⟨[(0, .dat (iN a0)), (1, .dat (iN a1)), (2, .dat (sl_Kind a2))], []⟩ _
  unfold f66 at hF
  repeat' (first
    | ((with_reducible refine q0 _ _ ?_); clear Q q0 q1 q2)
    | ((with_reducible refine q1 _ _ _ _ ?_); clear Q q0 q1 q2)
    | ((with_reducible refine q2 _ _ _ ?_); clear Q q0 q1 q2)
    | ((with_reducible refine seq_op ?hx (fun Q q0 q1 q2 => ?_)); (case hx => exact rfl); conv => whnf)
    | ((with_reducible refine draw_op ?hx (fun Q q0 q1 q2 => ?_)); (case hx => exact rfl); conv => whnf)
    | ((with_reducible refine seq_op0 ?hx (fun Q q0 q1 q2 => ?_)); (case hx => exact rfl); conv => whnf)
    | ((with_reducible refine draw_op0 ?hx (fun Q q0 q1 q2 => ?_)); (case hx => exact rfl); conv => whnf)
    | ((with_reducible refine seq_off ?hx ?_); (case hx => exact rfl))
    | ((with_reducible refine seq_off0 ?hx ?_); (case hx => exact rfl))
    | ((with_reducible refine draw_off ?hx ?_); (case hx => exact rfl))
    | ((with_reducible refine draw_off0 ?hx ?_); (case hx => exact rfl))
    | ((with_reducible refine seq_id ?_); (first | ((refine seq_opK rfl ?hy (fun Q q0 q1 q2 => ?_)); (case hy => first | assumption | exact notT (by assumption) | exact rfl); conv => whnf) | ((refine seq_offK rfl ?hy ?_); (case hy => first | assumption | exact notF (by assumption) | exact rfl)) | ((refine seq_opK0 rfl ?hy (fun Q q0 q1 q2 => ?_)); (case hy => first | assumption | exact notT (by assumption) | exact rfl); conv => whnf) | ((refine seq_offK0 rfl ?hy ?_); (case hy => first | assumption | exact notF (by assumption) | exact rfl)) | (revert hF; (with_reducible refine seq_opF ?hx ?_ ?_); (case hx => exact rfl); (intro hc hF Q q0 q1 q2; conv => whnf); rotate_left; (intro hc hF); rotate_right) | (revert hF; (with_reducible refine seq_opN ?hx ?_ ?_); (case hx => exact rfl); (intro hc hF); rotate_left; (intro hc hF Q q0 q1 q2; conv => whnf); rotate_right) | (revert hF; (with_reducible refine seq_opF0 ?hx ?_ ?_); (case hx => exact rfl); (intro hc hF Q q0 q1 q2; conv => whnf); rotate_left; (intro hc hF); rotate_right) | (revert hF; (with_reducible refine seq_opN0 ?hx ?_ ?_); (case hx => exact rfl); (intro hc hF); rotate_left; (intro hc hF Q q0 q1 q2; conv => whnf); rotate_right)))
    | ((with_reducible refine draw_id ?_); (first | ((refine draw_opK rfl ?hy (fun Q q0 q1 q2 => ?_)); (case hy => first | assumption | exact notT (by assumption) | exact rfl); conv => whnf) | ((refine draw_offK rfl ?hy ?_); (case hy => first | assumption | exact notF (by assumption) | exact rfl)) | ((refine draw_opK0 rfl ?hy (fun Q q0 q1 q2 => ?_)); (case hy => first | assumption | exact notT (by assumption) | exact rfl); conv => whnf) | ((refine draw_offK0 rfl ?hy ?_); (case hy => first | assumption | exact notF (by assumption) | exact rfl)) | (revert hF; (with_reducible refine draw_opF ?hx ?_ ?_); (case hx => exact rfl); (intro hc hF Q q0 q1 q2; conv => whnf); rotate_left; (intro hc hF); rotate_right) | (revert hF; (with_reducible refine draw_opN ?hx ?_ ?_); (case hx => exact rfl); (intro hc hF); rotate_left; (intro hc hF Q q0 q1 q2; conv => whnf); rotate_right) | (revert hF; (with_reducible refine draw_opF0 ?hx ?_ ?_); (case hx => exact rfl); (intro hc hF Q q0 q1 q2; conv => whnf); rotate_left; (intro hc hF); rotate_right) | (revert hF; (with_reducible refine draw_opN0 ?hx ?_ ?_); (case hx => exact rfl); (intro hc hF); rotate_left; (intro hc hF Q q0 q1 q2; conv => whnf); rotate_right)))
    | ((with_reducible refine cond_id ?_); (first | ((refine condKT rfl ?hy ?_); (case hy => first | assumption | exact notT (by assumption) | exact rfl)) | ((refine condKF rfl ?hy ?_); (case hy => first | assumption | exact notF (by assumption) | exact rfl)) | (revert hF; (with_reducible refine condF ?hx ?_ ?_); (case hx => exact rfl); all_goals (intro hc hF))))
    | ((with_reducible refine seq_nil ?_); (first | ((with_reducible refine hR _ ?_); clear R hR) | ((with_reducible refine hL _ ?_); clear L hL)))
    | ((with_reducible refine draw_nil ?_); (with_reducible refine hR _ _ ?hx ?_); (case hx => kernel_rfl); (first | clear R hR | clear hR))
    | ((with_reducible refine int_step ?_); conv => whnf)
    | ((with_reducible refine len_step ?_); conv => whnf)
    | ((with_reducible refine idx2 (by assumption) ?_); conv => whnf)
    | ((with_reducible refine idx3 (by assumption) ?_); conv => whnf)
    | with_reducible refine vc_block ?_
    | with_reducible refine vc_skip ?_
    | with_reducible refine vc_ret ?_
    | with_reducible refine vc_exit ?_
    | ((with_reducible refine vc_seqN [] ?hx ?_); (case hx => exact rfl))
    | (with_reducible refine vc_region (fun R hR => ?_))
    | ((with_reducible refine vc_draw ?hx (fun R hR => ?_)); (case hx => exact rfl))
    | fail
    | (revert hF; (with_reducible refine G48.step ?hx ?_); (case hx => exact rfl); intro v hF; conv => whnf)
    | (revert hF; (with_reducible refine G52.step ?hx ?_); (case hx => exact rfl); intro v hF; conv => whnf)
    | with_reducible refine k_seq_ret ?_
    | with_reducible refine k_seq_exit ?_
    | with_reducible refine k_blk ?_
    | with_reducible refine k_blk_ret ?_
    | with_reducible refine k_blk_here ?_
    | ((with_reducible refine k_blk_out ?hx ?_); (case hx => exact rfl))
    | with_reducible refine k_loop_ret ?_
    | with_reducible refine k_loop_exit ?_
    | (revert hF; (with_reducible refine idx1 ?hn ?_); (case hn => first | exact rfl | exact (List.length_map _) | assumption | omega | simp); intro x hx hF; conv => whnf)
    | ((with_reducible have hG := sub_fact hF); clear hF; (first | (refine sub_step hG (fun q hF => ?_)) | (refine subrow_step hG ?hn (fun q hF => ?_); (case hn => first | exact rfl | assumption | omega))); clear hG; conv => whnf)
    | ((with_reducible have hG := app_fact hF); clear hF; (first | ((refine app_row hG ?hn ?hs (fun q hF => ?_)); (case hn => first | exact rfl | assumption | omega); (case hs => exact rfl)) ); clear hG; conv => whnf)
    | ((refine row_all ?hn ?_); (case hn => first | exact rfl | (simp; done) | (simp; omega)); conv => whnf)
    | ((with_reducible refine le_step ?hn ?_); (case hn => first | exact rfl | assumption | omega); conv => whnf)
    | ((with_reducible have hG := setx_fact hF); clear hF; (refine setx_step hG ?hs (fun q hl hF => ?_)); (case hs => exact rfl); clear hG; conv => whnf)
    | (revert hF; (with_reducible refine dem_step ?_ ?_); (intro hl hF; conv => whnf); rotate_left; (intro hF; conv => whnf); rotate_right)
    | ((refine ⟨?hx, ?_⟩); (case hx => exact ⟨rfl, Nat.le_of_ble_eq_true rfl, rfl⟩); conv => whnf)
    | ((with_reducible refine ex_step ?_); conv => whnf)
    | ((with_reducible have hG := chk_fact hF); clear hF; (refine ⟨?hx, ?_⟩); (case hx => (first | exact of_decide_eq_true hG.1 | exact hG.1)); have hF := hG.2; clear hG; conv => whnf)
    | ((with_reducible refine both_T ?hx ?_); (case hx => first | exact rfl | assumption | exact notT (by assumption)); conv => whnf)
    | ((with_reducible refine both_F ?hx ?_); (case hx => first | exact rfl | assumption | exact notF (by assumption)); conv => whnf)
    | (revert hF; (with_reducible refine ite_step ?_ ?_) <;> (intro hc hF; conv => whnf))
    | ((with_reducible refine vc_condT ?hx ?_); (case hx => exact rfl))
    | ((with_reducible refine vc_condF ?hx ?_); (case hx => exact rfl))
    | (show retD _ _ _ _ _ _; conv => whnf)
    | ((refine inl_step ?ha ?hb ?hc rfl ?_); (case ha => exact rfl); (case hb => omega); (case hc => exact Nat.le_of_ble_eq_true rfl))
    | (show Kinl _ _ _ _ _ _ _; conv => whnf)
    | ((with_reducible refine kinl_step ?ha ?hb ?_); (case ha => exact rfl); (case hb => exact rfl); conv => whnf)
    | ((refine ⟨?hx, trivial⟩); (case hx => (cases hF; exact rfl)))
    | ((refine ⟨?hx, ?_⟩); (case hx => decide); conv => whnf)
    | ((with_reducible refine k_seq ?_))
    | (have hF : (none : Option _) = some _ := hF; cases hF))
end Go.Vc
namespace Go.Vc
open Go.Proofs
set_option linter.unusedVariables false
set_option linter.unnecessarySimpa false
set_option linter.unusedSimpArgs false
/- f75: (tusche/cut.choice).better -/
def f75 (N : Nat) (a0 : Choice) (a1 : Choice) : Option (Bool) :=
 bif decide (a1.worth < a0.worth) then (some (true))
 else (bif decide (a0.worth = a1.worth) then (some (decide (a0.labels < a1.labels)))
 else (some (false)))
def G75 (ds : List D) (d : D) : Prop := ∃ (N : Nat) (a0 : Choice) (a1 : Choice) (r : Bool), ds = [Choice.d a0, Choice.d a1] ∧ f75 N a0 a1 = some r ∧ d = bN r
theorem G75.step {N : Nat} {a0 : Choice} {a1 : Choice} {ρ : Type} {A : Bool → Option ρ} {q : ρ} {ds : List D} {K : D → Prop} (hd : ds = [Choice.d a0, Choice.d a1]) (h : ∀ r, A r = some q → K (bN r)) (hF : (f75 N a0 a1).bind A = some q) : ∃ d, G75 ds d ∧ K d := by
  obtain ⟨r, hr, hA⟩ := bind_some hF
  exact ⟨_, ⟨N, a0, a1, r, hd, hr, rfl⟩, h r hA⟩
set_option maxRecDepth 20000 in
set_option maxHeartbeats 4000000 in
theorem P75 : PureOK Try.prog 75 G75 := by
  refine pure_of_vc (c := mkCtx tyTree []) rfl tyOK (ctx_nil) [[0]] 2 Try.func75 rfl rfl (by decide) (by kernel_rfl) ?_
  rintro ds d ⟨N, a0, a1, r, rfl, hF, rfl⟩ hok
  clear hok
  refine ⟨rfl, ?_⟩
  show vc _ _ _ _ ⟨[(0, .dat (Choice.d a0)), (1, .dat (Choice.d a1))], []⟩ _
  unfold f75 at hF
  repeat' (first
    | ((with_reducible refine q0 _ _ ?_); clear Q q0 q1 q2)
    | ((with_reducible refine q1 _ _ _ _ ?_); clear Q q0 q1 q2)
    | ((with_reducible refine q2 _ _ _ ?_); clear Q q0 q1 q2)
    | ((with_reducible refine seq_op ?hx (fun Q q0 q1 q2 => ?_)); (case hx => exact rfl); conv => whnf)
    | ((with_reducible refine draw_op ?hx (fun Q q0 q1 q2 => ?_)); (case hx => exact rfl); conv => whnf)
    | ((with_reducible refine seq_op0 ?hx (fun Q q0 q1 q2 => ?_)); (case hx => exact rfl); conv => whnf)
    | ((with_reducible refine draw_op0 ?hx (fun Q q0 q1 q2 => ?_)); (case hx => exact rfl); conv => whnf)
    | ((with_reducible refine seq_off ?hx ?_); (case hx => exact rfl))
    | ((with_reducible refine seq_off0 ?hx ?_); (case hx => exact rfl))
    | ((with_reducible refine draw_off ?hx ?_); (case hx => exact rfl))
    | ((with_reducible refine draw_off0 ?hx ?_); (case hx => exact rfl))
    | ((with_reducible refine seq_id ?_); (first | ((refine seq_opK rfl ?hy (fun Q q0 q1 q2 => ?_)); (case hy => first | assumption | exact notT (by assumption) | exact rfl); conv => whnf) | ((refine seq_offK rfl ?hy ?_); (case hy => first | assumption | exact notF (by assumption) | exact rfl)) | ((refine seq_opK0 rfl ?hy (fun Q q0 q1 q2 => ?_)); (case hy => first | assumption | exact notT (by assumption) | exact rfl); conv => whnf) | ((refine seq_offK0 rfl ?hy ?_); (case hy => first | assumption | exact notF (by assumption) | exact rfl)) | (revert hF; (with_reducible refine seq_opF ?hx ?_ ?_); (case hx => exact rfl); (intro hc hF Q q0 q1 q2; conv => whnf); rotate_left; (intro hc hF); rotate_right) | (revert hF; (with_reducible refine seq_opN ?hx ?_ ?_); (case hx => exact rfl); (intro hc hF); rotate_left; (intro hc hF Q q0 q1 q2; conv => whnf); rotate_right) | (revert hF; (with_reducible refine seq_opF0 ?hx ?_ ?_); (case hx => exact rfl); (intro hc hF Q q0 q1 q2; conv => whnf); rotate_left; (intro hc hF); rotate_right) | (revert hF; (with_reducible refine seq_opN0 ?hx ?_ ?_); (case hx => exact rfl); (intro hc hF); rotate_left; (intro hc hF Q q0 q1 q2; conv => whnf); rotate_right)))
    | ((with_reducible refine draw_id ?_); (first | ((refine draw_opK rfl ?hy (fun Q q0 q1 q2 => ?_)); (case hy => first | assumption | exact notT (by assumption) | exact rfl); conv => whnf) | ((refine draw_offK rfl ?hy ?_); (case hy => first | assumption | exact notF (by assumption) | exact rfl)) | ((refine draw_opK0 rfl ?hy (fun Q q0 q1 q2 => ?_)); (case hy => first | assumption | exact notT (by assumption) | exact rfl); conv => whnf) | ((refine draw_offK0 rfl ?hy ?_); (case hy => first | assumption | exact notF (by assumption) | exact rfl)) | (revert hF; (with_reducible refine draw_opF ?hx ?_ ?_); (case hx => exact rfl); (intro hc hF Q q0 q1 q2; conv => whnf); rotate_left; (intro hc hF); rotate_right) | (revert hF; (with_reducible refine draw_opN ?hx ?_ ?_); (case hx => exact rfl); (intro hc hF); rotate_left; (intro hc hF Q q0 q1 q2; conv => whnf); rotate_right) | (revert hF; (with_reducible refine draw_opF0 ?hx ?_ ?_); (case hx => exact rfl); (intro hc hF Q q0 q1 q2; conv => whnf); rotate_left; (intro hc hF); rotate_right) | (revert hF; (with_reducible refine draw_opN0 ?hx ?_ ?_); (case hx => exact rfl); (intro hc hF); rotate_left; (intro hc hF Q q0 q1 q2; conv => whnf); rotate_right)))
    | ((with_reducible refine cond_id ?_); (first | ((refine condKT rfl ?hy ?_); (case hy => first | assumption | exact notT (by assumption) | exact rfl)) | ((refine condKF rfl ?hy ?_); (case hy => first | assumption | exact notF (by assumption) | exact rfl)) | (revert hF; (with_reducible refine condF ?hx ?_ ?_); (case hx => exact rfl); all_goals (intro hc hF))))
    | ((with_reducible refine seq_nil ?_); (first | ((with_reducible refine hR _ ?_); clear R hR) | ((with_reducible refine hL _ ?_); clear L hL)))
    | ((with_reducible refine draw_nil ?_); (with_reducible refine hR _ _ ?hx ?_); (case hx => kernel_rfl); (first | clear R hR | clear hR))
    | ((with_reducible refine int_step ?_); conv => whnf)
    | ((with_reducible refine len_step ?_); conv => whnf)
    | ((with_reducible refine idx2 (by assumption) ?_); conv => whnf)
    | ((with_reducible refine idx3 (by assumption) ?_); conv => whnf)
    | with_reducible refine vc_block ?_
    | with_reducible refine vc_skip ?_
    | with_reducible refine vc_ret ?_
    | with_reducible refine vc_exit ?_
    | ((with_reducible refine vc_seqN [] ?hx ?_); (case hx => exact rfl))
    | (with_reducible refine vc_region (fun R hR => ?_))
    | ((with_reducible refine vc_draw ?hx (fun R hR => ?_)); (case hx => exact rfl))
    | fail
    | with_reducible refine k_seq_ret ?_
    | with_reducible refine k_seq_exit ?_
    | with_reducible refine k_blk ?_
    | with_reducible refine k_blk_ret ?_
    | with_reducible refine k_blk_here ?_
    | ((with_reducible refine k_blk_out ?hx ?_); (case hx => exact rfl))
    | with_reducible refine k_loop_ret ?_
    | with_reducible refine k_loop_exit ?_
    | (revert hF; (with_reducible refine idx1 ?hn ?_); (case hn => first | exact rfl | exact (List.length_map _) | assumption | omega | simp); intro x hx hF; conv => whnf)
    | ((with_reducible have hG := sub_fact hF); clear hF; (first | (refine sub_step hG (fun q hF => ?_)) | (refine subrow_step hG ?hn (fun q hF => ?_); (case hn => first | exact rfl | assumption | omega))); clear hG; conv => whnf)
    | ((with_reducible have hG := app_fact hF); clear hF; (first | ((refine app_row hG ?hn ?hs (fun q hF => ?_)); (case hn => first | exact rfl | assumption | omega); (case hs => exact rfl)) ); clear hG; conv => whnf)
    | ((refine row_all ?hn ?_); (case hn => first | exact rfl | (simp; done) | (simp; omega)); conv => whnf)
    | ((with_reducible refine le_step ?hn ?_); (case hn => first | exact rfl | assumption | omega); conv => whnf)
    | ((with_reducible have hG := setx_fact hF); clear hF; (refine setx_step hG ?hs (fun q hl hF => ?_)); (case hs => exact rfl); clear hG; conv => whnf)
    | (revert hF; (with_reducible refine dem_step ?_ ?_); (intro hl hF; conv => whnf); rotate_left; (intro hF; conv => whnf); rotate_right)
    | ((refine ⟨?hx, ?_⟩); (case hx => exact ⟨rfl, Nat.le_of_ble_eq_true rfl, rfl⟩); conv => whnf)
    | ((with_reducible refine ex_step ?_); conv => whnf)
    | ((with_reducible have hG := chk_fact hF); clear hF; (refine ⟨?hx, ?_⟩); (case hx => (first | exact of_decide_eq_true hG.1 | exact hG.1)); have hF := hG.2; clear hG; conv => whnf)
    | ((with_reducible refine both_T ?hx ?_); (case hx => first | exact rfl | assumption | exact notT (by assumption)); conv => whnf)
    | ((with_reducible refine both_F ?hx ?_); (case hx => first | exact rfl | assumption | exact notF (by assumption)); conv => whnf)
    | (revert hF; (with_reducible refine ite_step ?_ ?_) <;> (intro hc hF; conv => whnf))
    | ((with_reducible refine vc_condT ?hx ?_); (case hx => exact rfl))
    | ((with_reducible refine vc_condF ?hx ?_); (case hx => exact rfl))
    | (show retD _ _ _ _ _ _; conv => whnf)
    | ((refine inl_step ?ha ?hb ?hc rfl ?_); (case ha => exact rfl); (case hb => omega); (case hc => exact Nat.le_of_ble_eq_true rfl))
    | (show Kinl _ _ _ _ _ _ _; conv => whnf)
    | ((with_reducible refine kinl_step ?ha ?hb ?_); (case ha => exact rfl); (case hb => exact rfl); conv => whnf)
    | ((refine ⟨?hx, trivial⟩); (case hx => (cases hF; exact rfl)))
    | ((refine ⟨?hx, ?_⟩); (case hx => decide); conv => whnf)
    | ((with_reducible refine k_seq ?_))
    | (have hF : (none : Option _) = some _ := hF; cases hF))
end Go.Vc
namespace Go.Vc
open Go.Proofs
set_option linter.unusedVariables false
set_option linter.unnecessarySimpa false
set_option linter.unusedSimpArgs false
/- f29: tusche/cut.Best -/
def f29_i403_c21 (a0 : Int) (a1 : Int) (b101 : List Choice) : Option (Int × Int) :=
 (chkI 13 a0).bind fun _ =>
 (chkI 13 a1).bind fun _ =>
 (ixN b101 (Int.toNat a0 * 13 + Int.toNat a1)).bind fun x2 =>
 some (x2.worth, (0 : Int))
def Sf29_i403_c21 : Ann := ⟨[7], [404000101], [], []⟩
def Vf29_i403_c21 (b101 : List Choice) : List SV := [.ptr 404000101 0]
def Bf29_i403_c21 (b101 : List Choice) : List Blk := [.arr (flatC Choice.d b101)]
theorem Cf29_i403_c21 {c : Ctx} {p nid : Nat} {a b : Code} {st : St} {K : Ex → St → Prop} {r : Int × Int} {a0 : Int} {a1 : Int} {g : _ → Option (Int × Int)} (hn : Nat.beq (nid * 1000 + firstRegion b) 404000000021 = true) (hz : Sf29_i403_c21.ok p = true)
    (h : g (f29_i403_c21 a0 a1) = some r → vc c p nid a st (Kseq (fun st' => st'.head Sf29_i403_c21 fun v bl => ∃ x, (fun y : (List Choice) => f29_i403_c21 a0 a1 y = some r) x ∧ v = (fun y : (List Choice) => Vf29_i403_c21  y) x ∧ bl = (fun y : (List Choice) => Bf29_i403_c21  y) x) K))
    (h2 : ∀ (b101 : List Choice), f29_i403_c21 a0 a1 b101 = some r → vc c p nid b (St.mk' Sf29_i403_c21 (Vf29_i403_c21  b101) (Bf29_i403_c21  b101)) K) (hF : joinK (f29_i403_c21 a0 a1) g = some r) : vc c p nid (.seq a b) st K :=
  vc_cut Sf29_i403_c21 (fun y : (List Choice) => Vf29_i403_c21  y) (fun y : (List Choice) => Bf29_i403_c21  y) (fun y : (List Choice) => f29_i403_c21 a0 a1 y = some r) hz (h hF) fun y hy => h2 y hy
theorem Zf29_i403_c21 {K : Ex → St → Prop} {r : Int × Int} {a0 : Int} {a1 : Int} {b101 : List Choice} {st st' : St} (hF : f29_i403_c21 a0 a1 b101 = some r) (h1 : st.norm Sf29_i403_c21 = some st') (h2 : st'.cutOk Sf29_i403_c21.keep Sf29_i403_c21.bs (memB Sf29_i403_c21.bs) = true) (h3 : vals Sf29_i403_c21.keep st'.e = Vf29_i403_c21  b101) (h4 : blks Sf29_i403_c21.bs st'.m = Bf29_i403_c21  b101) :
    Kseq (fun st' => st'.head Sf29_i403_c21 fun v bl => ∃ x, (fun y : (List Choice) => f29_i403_c21 a0 a1 y = some r) x ∧ v = (fun y : (List Choice) => Vf29_i403_c21  y) x ∧ bl = (fun y : (List Choice) => Bf29_i403_c21  y) x) K .normal st := by
  exact k_seq (head_in (I := (fun y : (List Choice) => f29_i403_c21 a0 a1 y = some r)) (x := (b101)) hF h1 h2 h3 h4)
def f29_i403_c4 (a0 : Int) (a1 : Int) (a2 : List Kind) (v8 : Int) (r3 : Int → (List Choice) → Option (Int × Int)) (b101' : List Choice) : Option (Int × Int) :=
 r3 (W (v8 + (1 : Int))) (b101')
def Sf29_i403_c4 : Ann := ⟨[0, 1, 2, 7, 8], [404000101], [], []⟩
def Vf29_i403_c4 (a0 : Int) (a1 : Int) (a2 : List Kind) (v8 : Int) (b101' : List Choice) : List SV := [.dat (iN a0), .dat (iN a1), .dat (sl_Kind a2), .ptr 404000101 0, .dat (iN v8)]
def Bf29_i403_c4 (a0 : Int) (a1 : Int) (a2 : List Kind) (v8 : Int) (b101' : List Choice) : List Blk := [.arr (flatC Choice.d (b101'))]
theorem Cf29_i403_c4 {c : Ctx} {p nid : Nat} {a b : Code} {st : St} {K : Ex → St → Prop} {r : Int × Int} {a0 : Int} {a1 : Int} {a2 : List Kind} {v8 : Int} {r3 : Int → (List Choice) → Option (Int × Int)} {g : _ → Option (Int × Int)} (hn : Nat.beq (nid * 1000 + firstRegion b) 404000000004 = true) (hz : Sf29_i403_c4.ok p = true)
    (h : g (f29_i403_c4 a0 a1 a2 v8 r3) = some r → vc c p nid a st (Kseq (fun st' => st'.head Sf29_i403_c4 fun v bl => ∃ x, (fun y : (List Choice) => f29_i403_c4 a0 a1 a2 v8 r3 y = some r) x ∧ v = (fun y : (List Choice) => Vf29_i403_c4 a0 a1 a2 v8 y) x ∧ bl = (fun y : (List Choice) => Bf29_i403_c4 a0 a1 a2 v8 y) x) K))
    (h2 : ∀ (b101' : List Choice), f29_i403_c4 a0 a1 a2 v8 r3 b101' = some r → vc c p nid b (St.mk' Sf29_i403_c4 (Vf29_i403_c4 a0 a1 a2 v8 b101') (Bf29_i403_c4 a0 a1 a2 v8 b101')) K) (hF : joinK (f29_i403_c4 a0 a1 a2 v8 r3) g = some r) : vc c p nid (.seq a b) st K :=
  vc_cut Sf29_i403_c4 (fun y : (List Choice) => Vf29_i403_c4 a0 a1 a2 v8 y) (fun y : (List Choice) => Bf29_i403_c4 a0 a1 a2 v8 y) (fun y : (List Choice) => f29_i403_c4 a0 a1 a2 v8 r3 y = some r) hz (h hF) fun y hy => h2 y hy
theorem Zf29_i403_c4 {K : Ex → St → Prop} {r : Int × Int} {a0 : Int} {a1 : Int} {a2 : List Kind} {v8 : Int} {r3 : Int → (List Choice) → Option (Int × Int)} {b101' : List Choice} {st st' : St} (hF : f29_i403_c4 a0 a1 a2 v8 r3 b101' = some r) (h1 : st.norm Sf29_i403_c4 = some st') (h2 : st'.cutOk Sf29_i403_c4.keep Sf29_i403_c4.bs (memB Sf29_i403_c4.bs) = true) (h3 : vals Sf29_i403_c4.keep st'.e = Vf29_i403_c4 a0 a1 a2 v8 b101') (h4 : blks Sf29_i403_c4.bs st'.m = Bf29_i403_c4 a0 a1 a2 v8 b101') :
    Kseq (fun st' => st'.head Sf29_i403_c4 fun v bl => ∃ x, (fun y : (List Choice) => f29_i403_c4 a0 a1 a2 v8 r3 y = some r) x ∧ v = (fun y : (List Choice) => Vf29_i403_c4 a0 a1 a2 v8 y) x ∧ bl = (fun y : (List Choice) => Bf29_i403_c4 a0 a1 a2 v8 y) x) K .normal st := by
  exact k_seq (head_in (I := (fun y : (List Choice) => f29_i403_c4 a0 a1 a2 v8 r3 y = some r)) (x := (b101')) hF h1 h2 h3 h4)
def f29_i403_c7 (a0 : Int) (a1 : Int) (a2 : List Kind) (v8 : Int) (v9 : Int) (r6 : Int → (List Choice) → Option (Int × Int)) (b101'' : List Choice) : Option (Int × Int) :=
 r6 (W (v9 + (1 : Int))) (b101'')
def Sf29_i403_c7 : Ann := ⟨[0, 1, 2, 7, 8, 9], [404000101], [], []⟩
def Vf29_i403_c7 (a0 : Int) (a1 : Int) (a2 : List Kind) (v8 : Int) (v9 : Int) (b101'' : List Choice) : List SV := [.dat (iN a0), .dat (iN a1), .dat (sl_Kind a2), .ptr 404000101 0, .dat (iN v8), .dat (iN v9)]
def Bf29_i403_c7 (a0 : Int) (a1 : Int) (a2 : List Kind) (v8 : Int) (v9 : Int) (b101'' : List Choice) : List Blk := [.arr (flatC Choice.d (b101''))]
theorem Cf29_i403_c7 {c : Ctx} {p nid : Nat} {a b : Code} {st : St} {K : Ex → St → Prop} {r : Int × Int} {a0 : Int} {a1 : Int} {a2 : List Kind} {v8 : Int} {v9 : Int} {r6 : Int → (List Choice) → Option (Int × Int)} {g : _ → Option (Int × Int)} (hn : Nat.beq (nid * 1000 + firstRegion b) 404000000007 = true) (hz : Sf29_i403_c7.ok p = true)
    (h : g (f29_i403_c7 a0 a1 a2 v8 v9 r6) = some r → vc c p nid a st (Kseq (fun st' => st'.head Sf29_i403_c7 fun v bl => ∃ x, (fun y : (List Choice) => f29_i403_c7 a0 a1 a2 v8 v9 r6 y = some r) x ∧ v = (fun y : (List Choice) => Vf29_i403_c7 a0 a1 a2 v8 v9 y) x ∧ bl = (fun y : (List Choice) => Bf29_i403_c7 a0 a1 a2 v8 v9 y) x) K))
    (h2 : ∀ (b101'' : List Choice), f29_i403_c7 a0 a1 a2 v8 v9 r6 b101'' = some r → vc c p nid b (St.mk' Sf29_i403_c7 (Vf29_i403_c7 a0 a1 a2 v8 v9 b101'') (Bf29_i403_c7 a0 a1 a2 v8 v9 b101'')) K) (hF : joinK (f29_i403_c7 a0 a1 a2 v8 v9 r6) g = some r) : vc c p nid (.seq a b) st K :=
  vc_cut Sf29_i403_c7 (fun y : (List Choice) => Vf29_i403_c7 a0 a1 a2 v8 v9 y) (fun y : (List Choice) => Bf29_i403_c7 a0 a1 a2 v8 v9 y) (fun y : (List Choice) => f29_i403_c7 a0 a1 a2 v8 v9 r6 y = some r) hz (h hF) fun y hy => h2 y hy
theorem Zf29_i403_c7 {K : Ex → St → Prop} {r : Int × Int} {a0 : Int} {a1 : Int} {a2 : List Kind} {v8 : Int} {v9 : Int} {r6 : Int → (List Choice) → Option (Int × Int)} {b101'' : List Choice} {st st' : St} (hF : f29_i403_c7 a0 a1 a2 v8 v9 r6 b101'' = some r) (h1 : st.norm Sf29_i403_c7 = some st') (h2 : st'.cutOk Sf29_i403_c7.keep Sf29_i403_c7.bs (memB Sf29_i403_c7.bs) = true) (h3 : vals Sf29_i403_c7.keep st'.e = Vf29_i403_c7 a0 a1 a2 v8 v9 b101'') (h4 : blks Sf29_i403_c7.bs st'.m = Bf29_i403_c7 a0 a1 a2 v8 v9 b101'') :
    Kseq (fun st' => st'.head Sf29_i403_c7 fun v bl => ∃ x, (fun y : (List Choice) => f29_i403_c7 a0 a1 a2 v8 v9 r6 y = some r) x ∧ v = (fun y : (List Choice) => Vf29_i403_c7 a0 a1 a2 v8 v9 y) x ∧ bl = (fun y : (List Choice) => Bf29_i403_c7 a0 a1 a2 v8 v9 y) x) K .normal st := by
  exact k_seq (head_in (I := (fun y : (List Choice) => f29_i403_c7 a0 a1 a2 v8 v9 r6 y = some r)) (x := (b101'')) hF h1 h2 h3 h4)
def f29_i403_18b (r18 : Int → (List Choice) → Option (Int × Int)) (a0 : Int) (a1 : Int) (a2 : List Kind) (N : Nat) (v8 : Int) (v9 : Int) (k2 : (List Choice) → Option (Int × Int)) (v15 : Int) (b101'''' : List Choice) : Option (Int × Int) :=
 bif decide (v15 < v9) then ((chkI 13 v8).bind fun _ =>
 (chkI 13 v15).bind fun _ =>
 (ixN (b101'''') (Int.toNat v8 * 13 + Int.toNat v15)).bind fun x3 =>
 (chkI 13 v8).bind fun _ =>
 (chkI 13 (W (v9 - v15))).bind fun _ =>
 (ixN (b101'''') (Int.toNat v8 * 13 + Int.toNat (W (v9 - v15)))).bind fun x4 =>
 (ixN (b101'''') (Int.toNat v8 * 13 + Int.toNat v9)).bind fun x5 =>
 (f75 N (Choice.mk (W (x3.worth + x4.worth)) (W (x3.labels + x4.labels)) false (Cut.mk false v15)) x5).bind fun x6 =>
 bif x6 then ((setN (b101'''') (Int.toNat v8 * 13 + Int.toNat v9) (Choice.mk (W (x3.worth + x4.worth)) (W (x3.labels + x4.labels)) false (Cut.mk false v15))).bind fun x7 =>
 r18 (W (v15 + (1 : Int))) x7)
 else (r18 (W (v15 + (1 : Int))) (b101'''')))
 else (k2 (b101''''))
def f29_i403_18 (a0 : Int) (a1 : Int) (a2 : List Kind) (N : Nat) (v8 : Int) (v9 : Int) (k2 : (List Choice) → Option (Int × Int)) : Nat → Int → (List Choice) → Option (Int × Int)
  | 0, _, _ => none
  | n + 1, v15, b101'''' => f29_i403_18b (f29_i403_18 a0 a1 a2 N v8 v9 k2 n) a0 a1 a2 N v8 v9 k2 v15 b101''''
def Sf29_i403_18 : Ann := ⟨[0, 1, 2, 7, 8, 9, 13, 15], [404000101, 404000806], [], []⟩
def Vf29_i403_18 (a0 : Int) (a1 : Int) (a2 : List Kind) (v8 : Int) (v9 : Int) (v15 : Int) (b101'''' : List Choice) : List SV := [.dat (iN a0), .dat (iN a1), .dat (sl_Kind a2), .ptr 404000101 0, .dat (iN v8), .dat (iN v9), .fn 74 [] [.ptr 404000806 0], .dat (iN v15)]
def Bf29_i403_18 (a0 : Int) (a1 : Int) (a2 : List Kind) (v8 : Int) (v9 : Int) (v15 : Int) (b101'''' : List Choice) : List Blk := [.arr (flatC Choice.d (b101'''')), .box [.ptr 404000101 (0 + Int.toNat v8 * 65 + Int.toNat v9 * 5)]]
theorem Lf29_i403_18 {c : Ctx} {p nid : Nat} {a : Code} {K : Ex → St → Prop} {r : Int × Int} {a0 : Int} {a1 : Int} {a2 : List Kind} {N : Nat} {v8 : Int} {v9 : Int} {k2 : (List Choice) → Option (Int × Int)} {fu : Nat} {v15 : Int} {b101'''' : List Choice} {st st' : St} (hz : Sf29_i403_18.ok p = true) (h1 : st.norm Sf29_i403_18 = some st') (h2 : st'.cutOk Sf29_i403_18.keep Sf29_i403_18.bs (memB Sf29_i403_18.bs) = true) (h3 : vals Sf29_i403_18.keep st'.e = Vf29_i403_18 a0 a1 a2 v8 v9 v15 b101'''') (h4 : blks Sf29_i403_18.bs st'.m = Bf29_i403_18 a0 a1 a2 v8 v9 v15 b101'''')
    (h : ∀ (n : Nat) (v15 : Int) (b101'''' : List Choice), f29_i403_18b (f29_i403_18 a0 a1 a2 N v8 v9 k2 n) a0 a1 a2 N v8 v9 k2 v15 b101'''' = some r → vc c p nid a (St.mk' Sf29_i403_18 (Vf29_i403_18 a0 a1 a2 v8 v9 v15 b101'''') (Bf29_i403_18 a0 a1 a2 v8 v9 v15 b101'''')) (Kloop Sf29_i403_18 (fun y : Nat × Int × (List Choice) => Vf29_i403_18 a0 a1 a2 v8 v9 y.2.1 y.2.2) (fun y : Nat × Int × (List Choice) => Bf29_i403_18 a0 a1 a2 v8 v9 y.2.1 y.2.2) (fun y : Nat × Int × (List Choice) => f29_i403_18 a0 a1 a2 N v8 v9 k2 y.1 y.2.1 y.2.2 = some r) (fun y : Nat × Int × (List Choice) => y.1) (n + 1, v15, b101'''') K)) (hF : f29_i403_18 a0 a1 a2 N v8 v9 k2 fu v15 b101'''' = some r) : vc c p nid (.loop a) st K := by
  refine vc_loop Sf29_i403_18 (fun y : Nat × Int × (List Choice) => Vf29_i403_18 a0 a1 a2 v8 v9 y.2.1 y.2.2) (fun y : Nat × Int × (List Choice) => Bf29_i403_18 a0 a1 a2 v8 v9 y.2.1 y.2.2) (fun y : Nat × Int × (List Choice) => f29_i403_18 a0 a1 a2 N v8 v9 k2 y.1 y.2.1 y.2.2 = some r) (fun y : Nat × Int × (List Choice) => y.1) hz (head_in (x := (fu, v15, b101'''')) hF h1 h2 h3 h4) ?_
  rintro ⟨_ | n, v15, b101''''⟩ hI
  · cases hI
  · exact h n v15 b101'''' hI
theorem Mf29_i403_18 {K : Ex → St → Prop} {r : Int × Int} {a0 : Int} {a1 : Int} {a2 : List Kind} {N : Nat} {v8 : Int} {v9 : Int} {k2 : (List Choice) → Option (Int × Int)} {n : Nat} {v15 : Int} {b101'''' : List Choice} {v15_ : Int} {b101''''_ : List Choice} {st st' : St} (hF : f29_i403_18 a0 a1 a2 N v8 v9 k2 n v15 b101'''' = some r) (h1 : st.norm Sf29_i403_18 = some st') (h2 : st'.cutOk Sf29_i403_18.keep Sf29_i403_18.bs (memB Sf29_i403_18.bs) = true) (h3 : vals Sf29_i403_18.keep st'.e = Vf29_i403_18 a0 a1 a2 v8 v9 v15 b101'''') (h4 : blks Sf29_i403_18.bs st'.m = Bf29_i403_18 a0 a1 a2 v8 v9 v15 b101'''') :
    Kloop Sf29_i403_18 (fun y : Nat × Int × (List Choice) => Vf29_i403_18 a0 a1 a2 v8 v9 y.2.1 y.2.2) (fun y : Nat × Int × (List Choice) => Bf29_i403_18 a0 a1 a2 v8 v9 y.2.1 y.2.2) (fun y : Nat × Int × (List Choice) => f29_i403_18 a0 a1 a2 N v8 v9 k2 y.1 y.2.1 y.2.2 = some r) (fun y : Nat × Int × (List Choice) => y.1) (n + 1, v15_, b101''''_) K .normal st := by
  exact head_back (y := (n, v15, b101'''')) hF (Nat.lt_succ_self n) h1 h2 h3 h4
def f29_i403_c17 (a0 : Int) (a1 : Int) (a2 : List Kind) (N : Nat) (v8 : Int) (v9 : Int) (k2 : (List Choice) → Option (Int × Int)) (b101''' : List Choice) : Option (Int × Int) :=
 f29_i403_18 a0 a1 a2 N v8 v9 k2 N (1 : Int) (b101''')
def Sf29_i403_c17 : Ann := ⟨[0, 1, 2, 7, 8, 9, 13], [404000101, 404000806], [], []⟩
def Vf29_i403_c17 (a0 : Int) (a1 : Int) (a2 : List Kind) (v8 : Int) (v9 : Int) (b101''' : List Choice) : List SV := [.dat (iN a0), .dat (iN a1), .dat (sl_Kind a2), .ptr 404000101 0, .dat (iN v8), .dat (iN v9), .fn 74 [] [.ptr 404000806 0]]
def Bf29_i403_c17 (a0 : Int) (a1 : Int) (a2 : List Kind) (v8 : Int) (v9 : Int) (b101''' : List Choice) : List Blk := [.arr (flatC Choice.d (b101''')), .box [.ptr 404000101 (0 + Int.toNat v8 * 65 + Int.toNat v9 * 5)]]
theorem Cf29_i403_c17 {c : Ctx} {p nid : Nat} {a b : Code} {st : St} {K : Ex → St → Prop} {r : Int × Int} {a0 : Int} {a1 : Int} {a2 : List Kind} {N : Nat} {v8 : Int} {v9 : Int} {k2 : (List Choice) → Option (Int × Int)} {g : _ → Option (Int × Int)} (hn : Nat.beq (nid * 1000 + firstRegion b) 404000000017 = true) (hz : Sf29_i403_c17.ok p = true)
    (h : g (f29_i403_c17 a0 a1 a2 N v8 v9 k2) = some r → vc c p nid a st (Kseq (fun st' => st'.head Sf29_i403_c17 fun v bl => ∃ x, (fun y : (List Choice) => f29_i403_c17 a0 a1 a2 N v8 v9 k2 y = some r) x ∧ v = (fun y : (List Choice) => Vf29_i403_c17 a0 a1 a2 v8 v9 y) x ∧ bl = (fun y : (List Choice) => Bf29_i403_c17 a0 a1 a2 v8 v9 y) x) K))
    (h2 : ∀ (b101''' : List Choice), f29_i403_c17 a0 a1 a2 N v8 v9 k2 b101''' = some r → vc c p nid b (St.mk' Sf29_i403_c17 (Vf29_i403_c17 a0 a1 a2 v8 v9 b101''') (Bf29_i403_c17 a0 a1 a2 v8 v9 b101''')) K) (hF : joinK (f29_i403_c17 a0 a1 a2 N v8 v9 k2) g = some r) : vc c p nid (.seq a b) st K :=
  vc_cut Sf29_i403_c17 (fun y : (List Choice) => Vf29_i403_c17 a0 a1 a2 v8 v9 y) (fun y : (List Choice) => Bf29_i403_c17 a0 a1 a2 v8 v9 y) (fun y : (List Choice) => f29_i403_c17 a0 a1 a2 N v8 v9 k2 y = some r) hz (h hF) fun y hy => h2 y hy
theorem Zf29_i403_c17 {K : Ex → St → Prop} {r : Int × Int} {a0 : Int} {a1 : Int} {a2 : List Kind} {N : Nat} {v8 : Int} {v9 : Int} {k2 : (List Choice) → Option (Int × Int)} {b101''' : List Choice} {st st' : St} (hF : f29_i403_c17 a0 a1 a2 N v8 v9 k2 b101''' = some r) (h1 : st.norm Sf29_i403_c17 = some st') (h2 : st'.cutOk Sf29_i403_c17.keep Sf29_i403_c17.bs (memB Sf29_i403_c17.bs) = true) (h3 : vals Sf29_i403_c17.keep st'.e = Vf29_i403_c17 a0 a1 a2 v8 v9 b101''') (h4 : blks Sf29_i403_c17.bs st'.m = Bf29_i403_c17 a0 a1 a2 v8 v9 b101''') :
    Kseq (fun st' => st'.head Sf29_i403_c17 fun v bl => ∃ x, (fun y : (List Choice) => f29_i403_c17 a0 a1 a2 N v8 v9 k2 y = some r) x ∧ v = (fun y : (List Choice) => Vf29_i403_c17 a0 a1 a2 v8 v9 y) x ∧ bl = (fun y : (List Choice) => Bf29_i403_c17 a0 a1 a2 v8 v9 y) x) K .normal st := by
  exact k_seq (head_in (I := (fun y : (List Choice) => f29_i403_c17 a0 a1 a2 N v8 v9 k2 y = some r)) (x := (b101''')) hF h1 h2 h3 h4)
def f29_i403_14b (r14 : Int → (List Choice) → Option (Int × Int)) (a0 : Int) (a1 : Int) (a2 : List Kind) (N : Nat) (v8 : Int) (v9 : Int) (k3 : (List Choice) → Option (Int × Int)) (v14 : Int) (b101''' : List Choice) : Option (Int × Int) :=
 bif decide (v14 < v8) then ((chkI 13 v14).bind fun _ =>
 (chkI 13 v9).bind fun _ =>
 (ixN (b101''') (Int.toNat v14 * 13 + Int.toNat v9)).bind fun x8 =>
 (chkI 13 (W (v8 - v14))).bind fun _ =>
 (chkI 13 v9).bind fun _ =>
 (ixN (b101''') (Int.toNat (W (v8 - v14)) * 13 + Int.toNat v9)).bind fun x9 =>
 (ixN (b101''') (Int.toNat v8 * 13 + Int.toNat v9)).bind fun x10 =>
 (f75 N (Choice.mk (W (x8.worth + x9.worth)) (W (x8.labels + x9.labels)) false (Cut.mk true v14)) x10).bind fun x11 =>
 bif x11 then ((setN (b101''') (Int.toNat v8 * 13 + Int.toNat v9) (Choice.mk (W (x8.worth + x9.worth)) (W (x8.labels + x9.labels)) false (Cut.mk true v14))).bind fun x12 =>
 r14 (W (v14 + (1 : Int))) x12)
 else (r14 (W (v14 + (1 : Int))) (b101''')))
 else (k3 (b101'''))
def f29_i403_14 (a0 : Int) (a1 : Int) (a2 : List Kind) (N : Nat) (v8 : Int) (v9 : Int) (k3 : (List Choice) → Option (Int × Int)) : Nat → Int → (List Choice) → Option (Int × Int)
  | 0, _, _ => none
  | n + 1, v14, b101''' => f29_i403_14b (f29_i403_14 a0 a1 a2 N v8 v9 k3 n) a0 a1 a2 N v8 v9 k3 v14 b101'''
def Sf29_i403_14 : Ann := ⟨[0, 1, 2, 7, 8, 9, 13, 14], [404000101, 404000806], [], []⟩
def Vf29_i403_14 (a0 : Int) (a1 : Int) (a2 : List Kind) (v8 : Int) (v9 : Int) (v14 : Int) (b101''' : List Choice) : List SV := [.dat (iN a0), .dat (iN a1), .dat (sl_Kind a2), .ptr 404000101 0, .dat (iN v8), .dat (iN v9), .fn 74 [] [.ptr 404000806 0], .dat (iN v14)]
def Bf29_i403_14 (a0 : Int) (a1 : Int) (a2 : List Kind) (v8 : Int) (v9 : Int) (v14 : Int) (b101''' : List Choice) : List Blk := [.arr (flatC Choice.d (b101''')), .box [.ptr 404000101 (0 + Int.toNat v8 * 65 + Int.toNat v9 * 5)]]
theorem Lf29_i403_14 {c : Ctx} {p nid : Nat} {a : Code} {K : Ex → St → Prop} {r : Int × Int} {a0 : Int} {a1 : Int} {a2 : List Kind} {N : Nat} {v8 : Int} {v9 : Int} {k3 : (List Choice) → Option (Int × Int)} {fu : Nat} {v14 : Int} {b101''' : List Choice} {st st' : St} (hz : Sf29_i403_14.ok p = true) (h1 : st.norm Sf29_i403_14 = some st') (h2 : st'.cutOk Sf29_i403_14.keep Sf29_i403_14.bs (memB Sf29_i403_14.bs) = true) (h3 : vals Sf29_i403_14.keep st'.e = Vf29_i403_14 a0 a1 a2 v8 v9 v14 b101''') (h4 : blks Sf29_i403_14.bs st'.m = Bf29_i403_14 a0 a1 a2 v8 v9 v14 b101''')
    (h : ∀ (n : Nat) (v14 : Int) (b101''' : List Choice), f29_i403_14b (f29_i403_14 a0 a1 a2 N v8 v9 k3 n) a0 a1 a2 N v8 v9 k3 v14 b101''' = some r → vc c p nid a (St.mk' Sf29_i403_14 (Vf29_i403_14 a0 a1 a2 v8 v9 v14 b101''') (Bf29_i403_14 a0 a1 a2 v8 v9 v14 b101''')) (Kloop Sf29_i403_14 (fun y : Nat × Int × (List Choice) => Vf29_i403_14 a0 a1 a2 v8 v9 y.2.1 y.2.2) (fun y : Nat × Int × (List Choice) => Bf29_i403_14 a0 a1 a2 v8 v9 y.2.1 y.2.2) (fun y : Nat × Int × (List Choice) => f29_i403_14 a0 a1 a2 N v8 v9 k3 y.1 y.2.1 y.2.2 = some r) (fun y : Nat × Int × (List Choice) => y.1) (n + 1, v14, b101''') K)) (hF : f29_i403_14 a0 a1 a2 N v8 v9 k3 fu v14 b101''' = some r) : vc c p nid (.loop a) st K := by
  refine vc_loop Sf29_i403_14 (fun y : Nat × Int × (List Choice) => Vf29_i403_14 a0 a1 a2 v8 v9 y.2.1 y.2.2) (fun y : Nat × Int × (List Choice) => Bf29_i403_14 a0 a1 a2 v8 v9 y.2.1 y.2.2) (fun y : Nat × Int × (List Choice) => f29_i403_14 a0 a1 a2 N v8 v9 k3 y.1 y.2.1 y.2.2 = some r) (fun y : Nat × Int × (List Choice) => y.1) hz (head_in (x := (fu, v14, b101''')) hF h1 h2 h3 h4) ?_
  rintro ⟨_ | n, v14, b101'''⟩ hI
  · cases hI
  · exact h n v14 b101''' hI
theorem Mf29_i403_14 {K : Ex → St → Prop} {r : Int × Int} {a0 : Int} {a1 : Int} {a2 : List Kind} {N : Nat} {v8 : Int} {v9 : Int} {k3 : (List Choice) → Option (Int × Int)} {n : Nat} {v14 : Int} {b101''' : List Choice} {v14_ : Int} {b101'''_ : List Choice} {st st' : St} (hF : f29_i403_14 a0 a1 a2 N v8 v9 k3 n v14 b101''' = some r) (h1 : st.norm Sf29_i403_14 = some st') (h2 : st'.cutOk Sf29_i403_14.keep Sf29_i403_14.bs (memB Sf29_i403_14.bs) = true) (h3 : vals Sf29_i403_14.keep st'.e = Vf29_i403_14 a0 a1 a2 v8 v9 v14 b101''') (h4 : blks Sf29_i403_14.bs st'.m = Bf29_i403_14 a0 a1 a2 v8 v9 v14 b101''') :
    Kloop Sf29_i403_14 (fun y : Nat × Int × (List Choice) => Vf29_i403_14 a0 a1 a2 v8 v9 y.2.1 y.2.2) (fun y : Nat × Int × (List Choice) => Bf29_i403_14 a0 a1 a2 v8 v9 y.2.1 y.2.2) (fun y : Nat × Int × (List Choice) => f29_i403_14 a0 a1 a2 N v8 v9 k3 y.1 y.2.1 y.2.2 = some r) (fun y : Nat × Int × (List Choice) => y.1) (n + 1, v14_, b101'''_) K .normal st := by
  exact head_back (y := (n, v14, b101''')) hF (Nat.lt_succ_self n) h1 h2 h3 h4
def f29_i403_c12 (a0 : Int) (a1 : Int) (a2 : List Kind) (N : Nat) (v8 : Int) (v9 : Int) (k2 : (List Choice) → Option (Int × Int)) (b101'' : List Choice) : Option (Int × Int) :=
 joinK (f29_i403_c17 a0 a1 a2 N v8 v9 k2) fun k3 =>
 f29_i403_14 a0 a1 a2 N v8 v9 k3 N (1 : Int) (b101'')
def Sf29_i403_c12 : Ann := ⟨[0, 1, 2, 7, 8, 9, 10], [404000101, 404000806], [], []⟩
def Vf29_i403_c12 (a0 : Int) (a1 : Int) (a2 : List Kind) (v8 : Int) (v9 : Int) (b101'' : List Choice) : List SV := [.dat (iN a0), .dat (iN a1), .dat (sl_Kind a2), .ptr 404000101 0, .dat (iN v8), .dat (iN v9), .ptr 404000806 0]
def Bf29_i403_c12 (a0 : Int) (a1 : Int) (a2 : List Kind) (v8 : Int) (v9 : Int) (b101'' : List Choice) : List Blk := [.arr (flatC Choice.d (b101'')), .box [.ptr 404000101 (0 + Int.toNat v8 * 65 + Int.toNat v9 * 5)]]
theorem Cf29_i403_c12 {c : Ctx} {p nid : Nat} {a b : Code} {st : St} {K : Ex → St → Prop} {r : Int × Int} {a0 : Int} {a1 : Int} {a2 : List Kind} {N : Nat} {v8 : Int} {v9 : Int} {k2 : (List Choice) → Option (Int × Int)} {g : _ → Option (Int × Int)} (hn : Nat.beq (nid * 1000 + firstRegion b) 404000000012 = true) (hz : Sf29_i403_c12.ok p = true)
    (h : g (f29_i403_c12 a0 a1 a2 N v8 v9 k2) = some r → vc c p nid a st (Kseq (fun st' => st'.head Sf29_i403_c12 fun v bl => ∃ x, (fun y : (List Choice) => f29_i403_c12 a0 a1 a2 N v8 v9 k2 y = some r) x ∧ v = (fun y : (List Choice) => Vf29_i403_c12 a0 a1 a2 v8 v9 y) x ∧ bl = (fun y : (List Choice) => Bf29_i403_c12 a0 a1 a2 v8 v9 y) x) K))
    (h2 : ∀ (b101'' : List Choice), f29_i403_c12 a0 a1 a2 N v8 v9 k2 b101'' = some r → vc c p nid b (St.mk' Sf29_i403_c12 (Vf29_i403_c12 a0 a1 a2 v8 v9 b101'') (Bf29_i403_c12 a0 a1 a2 v8 v9 b101'')) K) (hF : joinK (f29_i403_c12 a0 a1 a2 N v8 v9 k2) g = some r) : vc c p nid (.seq a b) st K :=
  vc_cut Sf29_i403_c12 (fun y : (List Choice) => Vf29_i403_c12 a0 a1 a2 v8 v9 y) (fun y : (List Choice) => Bf29_i403_c12 a0 a1 a2 v8 v9 y) (fun y : (List Choice) => f29_i403_c12 a0 a1 a2 N v8 v9 k2 y = some r) hz (h hF) fun y hy => h2 y hy
theorem Zf29_i403_c12 {K : Ex → St → Prop} {r : Int × Int} {a0 : Int} {a1 : Int} {a2 : List Kind} {N : Nat} {v8 : Int} {v9 : Int} {k2 : (List Choice) → Option (Int × Int)} {b101'' : List Choice} {st st' : St} (hF : f29_i403_c12 a0 a1 a2 N v8 v9 k2 b101'' = some r) (h1 : st.norm Sf29_i403_c12 = some st') (h2 : st'.cutOk Sf29_i403_c12.keep Sf29_i403_c12.bs (memB Sf29_i403_c12.bs) = true) (h3 : vals Sf29_i403_c12.keep st'.e = Vf29_i403_c12 a0 a1 a2 v8 v9 b101'') (h4 : blks Sf29_i403_c12.bs st'.m = Bf29_i403_c12 a0 a1 a2 v8 v9 b101'') :
    Kseq (fun st' => st'.head Sf29_i403_c12 fun v bl => ∃ x, (fun y : (List Choice) => f29_i403_c12 a0 a1 a2 N v8 v9 k2 y = some r) x ∧ v = (fun y : (List Choice) => Vf29_i403_c12 a0 a1 a2 v8 v9 y) x ∧ bl = (fun y : (List Choice) => Bf29_i403_c12 a0 a1 a2 v8 v9 y) x) K .normal st := by
  exact k_seq (head_in (I := (fun y : (List Choice) => f29_i403_c12 a0 a1 a2 N v8 v9 k2 y = some r)) (x := (b101'')) hF h1 h2 h3 h4)
def f29_i403_6b (r6 : Int → (List Choice) → Option (Int × Int)) (a0 : Int) (a1 : Int) (a2 : List Kind) (N : Nat) (v8 : Int) (k1 : (List Choice) → Option (Int × Int)) (v9 : Int) (b101' : List Choice) : Option (Int × Int) :=
 bif decide (v9 ≤ a1) then (joinK (f29_i403_c7 a0 a1 a2 v8 v9 r6) fun k2 =>
 (chkI 13 v8).bind fun _ =>
 (chkI 13 v9).bind fun _ =>
 joinK (f29_i403_c12 a0 a1 a2 N v8 v9 k2) fun k4 =>
 (f49 N v8 v9 a2).bind fun x13 =>
 bif decide ((0 : Int) < x13.1) then ((setN (b101') (Int.toNat v8 * 13 + Int.toNat v9) (Choice.mk x13.1 (1 : Int) true (Cut.mk false (0 : Int)))).bind fun x14 =>
 k4 x14)
 else (k4 (b101')))
 else (k1 (b101'))
def f29_i403_6 (a0 : Int) (a1 : Int) (a2 : List Kind) (N : Nat) (v8 : Int) (k1 : (List Choice) → Option (Int × Int)) : Nat → Int → (List Choice) → Option (Int × Int)
  | 0, _, _ => none
  | n + 1, v9, b101' => f29_i403_6b (f29_i403_6 a0 a1 a2 N v8 k1 n) a0 a1 a2 N v8 k1 v9 b101'
def Sf29_i403_6 : Ann := ⟨[0, 1, 2, 7, 8, 9], [404000101], [], []⟩
def Vf29_i403_6 (a0 : Int) (a1 : Int) (a2 : List Kind) (v8 : Int) (v9 : Int) (b101' : List Choice) : List SV := [.dat (iN a0), .dat (iN a1), .dat (sl_Kind a2), .ptr 404000101 0, .dat (iN v8), .dat (iN v9)]
def Bf29_i403_6 (a0 : Int) (a1 : Int) (a2 : List Kind) (v8 : Int) (v9 : Int) (b101' : List Choice) : List Blk := [.arr (flatC Choice.d (b101'))]
theorem Lf29_i403_6 {c : Ctx} {p nid : Nat} {a : Code} {K : Ex → St → Prop} {r : Int × Int} {a0 : Int} {a1 : Int} {a2 : List Kind} {N : Nat} {v8 : Int} {k1 : (List Choice) → Option (Int × Int)} {fu : Nat} {v9 : Int} {b101' : List Choice} {st st' : St} (hz : Sf29_i403_6.ok p = true) (h1 : st.norm Sf29_i403_6 = some st') (h2 : st'.cutOk Sf29_i403_6.keep Sf29_i403_6.bs (memB Sf29_i403_6.bs) = true) (h3 : vals Sf29_i403_6.keep st'.e = Vf29_i403_6 a0 a1 a2 v8 v9 b101') (h4 : blks Sf29_i403_6.bs st'.m = Bf29_i403_6 a0 a1 a2 v8 v9 b101')
    (h : ∀ (n : Nat) (v9 : Int) (b101' : List Choice), f29_i403_6b (f29_i403_6 a0 a1 a2 N v8 k1 n) a0 a1 a2 N v8 k1 v9 b101' = some r → vc c p nid a (St.mk' Sf29_i403_6 (Vf29_i403_6 a0 a1 a2 v8 v9 b101') (Bf29_i403_6 a0 a1 a2 v8 v9 b101')) (Kloop Sf29_i403_6 (fun y : Nat × Int × (List Choice) => Vf29_i403_6 a0 a1 a2 v8 y.2.1 y.2.2) (fun y : Nat × Int × (List Choice) => Bf29_i403_6 a0 a1 a2 v8 y.2.1 y.2.2) (fun y : Nat × Int × (List Choice) => f29_i403_6 a0 a1 a2 N v8 k1 y.1 y.2.1 y.2.2 = some r) (fun y : Nat × Int × (List Choice) => y.1) (n + 1, v9, b101') K)) (hF : f29_i403_6 a0 a1 a2 N v8 k1 fu v9 b101' = some r) : vc c p nid (.loop a) st K := by
  refine vc_loop Sf29_i403_6 (fun y : Nat × Int × (List Choice) => Vf29_i403_6 a0 a1 a2 v8 y.2.1 y.2.2) (fun y : Nat × Int × (List Choice) => Bf29_i403_6 a0 a1 a2 v8 y.2.1 y.2.2) (fun y : Nat × Int × (List Choice) => f29_i403_6 a0 a1 a2 N v8 k1 y.1 y.2.1 y.2.2 = some r) (fun y : Nat × Int × (List Choice) => y.1) hz (head_in (x := (fu, v9, b101')) hF h1 h2 h3 h4) ?_
  rintro ⟨_ | n, v9, b101'⟩ hI
  · cases hI
  · exact h n v9 b101' hI
theorem Mf29_i403_6 {K : Ex → St → Prop} {r : Int × Int} {a0 : Int} {a1 : Int} {a2 : List Kind} {N : Nat} {v8 : Int} {k1 : (List Choice) → Option (Int × Int)} {n : Nat} {v9 : Int} {b101' : List Choice} {v9_ : Int} {b101'_ : List Choice} {st st' : St} (hF : f29_i403_6 a0 a1 a2 N v8 k1 n v9 b101' = some r) (h1 : st.norm Sf29_i403_6 = some st') (h2 : st'.cutOk Sf29_i403_6.keep Sf29_i403_6.bs (memB Sf29_i403_6.bs) = true) (h3 : vals Sf29_i403_6.keep st'.e = Vf29_i403_6 a0 a1 a2 v8 v9 b101') (h4 : blks Sf29_i403_6.bs st'.m = Bf29_i403_6 a0 a1 a2 v8 v9 b101') :
    Kloop Sf29_i403_6 (fun y : Nat × Int × (List Choice) => Vf29_i403_6 a0 a1 a2 v8 y.2.1 y.2.2) (fun y : Nat × Int × (List Choice) => Bf29_i403_6 a0 a1 a2 v8 y.2.1 y.2.2) (fun y : Nat × Int × (List Choice) => f29_i403_6 a0 a1 a2 N v8 k1 y.1 y.2.1 y.2.2 = some r) (fun y : Nat × Int × (List Choice) => y.1) (n + 1, v9_, b101'_) K .normal st := by
  exact head_back (y := (n, v9, b101')) hF (Nat.lt_succ_self n) h1 h2 h3 h4
def f29_i403_3b (r3 : Int → (List Choice) → Option (Int × Int)) (a0 : Int) (a1 : Int) (a2 : List Kind) (N : Nat) (k0 : (List Choice) → Option (Int × Int)) (v8 : Int) (b101 : List Choice) : Option (Int × Int) :=
 bif decide (v8 ≤ a0) then (joinK (f29_i403_c4 a0 a1 a2 v8 r3) fun k1 =>
 f29_i403_6 a0 a1 a2 N v8 k1 N (1 : Int) b101)
 else (k0 b101)
def f29_i403_3 (a0 : Int) (a1 : Int) (a2 : List Kind) (N : Nat) (k0 : (List Choice) → Option (Int × Int)) : Nat → Int → (List Choice) → Option (Int × Int)
  | 0, _, _ => none
  | n + 1, v8, b101 => f29_i403_3b (f29_i403_3 a0 a1 a2 N k0 n) a0 a1 a2 N k0 v8 b101
def Sf29_i403_3 : Ann := ⟨[0, 1, 2, 7, 8], [404000101], [], []⟩
def Vf29_i403_3 (a0 : Int) (a1 : Int) (a2 : List Kind) (v8 : Int) (b101 : List Choice) : List SV := [.dat (iN a0), .dat (iN a1), .dat (sl_Kind a2), .ptr 404000101 0, .dat (iN v8)]
def Bf29_i403_3 (a0 : Int) (a1 : Int) (a2 : List Kind) (v8 : Int) (b101 : List Choice) : List Blk := [.arr (flatC Choice.d b101)]
theorem Lf29_i403_3 {c : Ctx} {p nid : Nat} {a : Code} {K : Ex → St → Prop} {r : Int × Int} {a0 : Int} {a1 : Int} {a2 : List Kind} {N : Nat} {k0 : (List Choice) → Option (Int × Int)} {fu : Nat} {v8 : Int} {b101 : List Choice} {st st' : St} (hz : Sf29_i403_3.ok p = true) (h1 : st.norm Sf29_i403_3 = some st') (h2 : st'.cutOk Sf29_i403_3.keep Sf29_i403_3.bs (memB Sf29_i403_3.bs) = true) (h3 : vals Sf29_i403_3.keep st'.e = Vf29_i403_3 a0 a1 a2 v8 b101) (h4 : blks Sf29_i403_3.bs st'.m = Bf29_i403_3 a0 a1 a2 v8 b101)
    (h : ∀ (n : Nat) (v8 : Int) (b101 : List Choice), f29_i403_3b (f29_i403_3 a0 a1 a2 N k0 n) a0 a1 a2 N k0 v8 b101 = some r → vc c p nid a (St.mk' Sf29_i403_3 (Vf29_i403_3 a0 a1 a2 v8 b101) (Bf29_i403_3 a0 a1 a2 v8 b101)) (Kloop Sf29_i403_3 (fun y : Nat × Int × (List Choice) => Vf29_i403_3 a0 a1 a2 y.2.1 y.2.2) (fun y : Nat × Int × (List Choice) => Bf29_i403_3 a0 a1 a2 y.2.1 y.2.2) (fun y : Nat × Int × (List Choice) => f29_i403_3 a0 a1 a2 N k0 y.1 y.2.1 y.2.2 = some r) (fun y : Nat × Int × (List Choice) => y.1) (n + 1, v8, b101) K)) (hF : f29_i403_3 a0 a1 a2 N k0 fu v8 b101 = some r) : vc c p nid (.loop a) st K := by
  refine vc_loop Sf29_i403_3 (fun y : Nat × Int × (List Choice) => Vf29_i403_3 a0 a1 a2 y.2.1 y.2.2) (fun y : Nat × Int × (List Choice) => Bf29_i403_3 a0 a1 a2 y.2.1 y.2.2) (fun y : Nat × Int × (List Choice) => f29_i403_3 a0 a1 a2 N k0 y.1 y.2.1 y.2.2 = some r) (fun y : Nat × Int × (List Choice) => y.1) hz (head_in (x := (fu, v8, b101)) hF h1 h2 h3 h4) ?_
  rintro ⟨_ | n, v8, b101⟩ hI
  · cases hI
  · exact h n v8 b101 hI
theorem Mf29_i403_3 {K : Ex → St → Prop} {r : Int × Int} {a0 : Int} {a1 : Int} {a2 : List Kind} {N : Nat} {k0 : (List Choice) → Option (Int × Int)} {n : Nat} {v8 : Int} {b101 : List Choice} {v8_ : Int} {b101_ : List Choice} {st st' : St} (hF : f29_i403_3 a0 a1 a2 N k0 n v8 b101 = some r) (h1 : st.norm Sf29_i403_3 = some st') (h2 : st'.cutOk Sf29_i403_3.keep Sf29_i403_3.bs (memB Sf29_i403_3.bs) = true) (h3 : vals Sf29_i403_3.keep st'.e = Vf29_i403_3 a0 a1 a2 v8 b101) (h4 : blks Sf29_i403_3.bs st'.m = Bf29_i403_3 a0 a1 a2 v8 b101) :
    Kloop Sf29_i403_3 (fun y : Nat × Int × (List Choice) => Vf29_i403_3 a0 a1 a2 y.2.1 y.2.2) (fun y : Nat × Int × (List Choice) => Bf29_i403_3 a0 a1 a2 y.2.1 y.2.2) (fun y : Nat × Int × (List Choice) => f29_i403_3 a0 a1 a2 N k0 y.1 y.2.1 y.2.2 = some r) (fun y : Nat × Int × (List Choice) => y.1) (n + 1, v8_, b101_) K .normal st := by
  exact head_back (y := (n, v8, b101)) hF (Nat.lt_succ_self n) h1 h2 h3 h4
def f29 (N : Nat) (a0 : Int) (a1 : Int) (a2 : List Kind) : Option (Int × Int) :=
 (f66 N a0 a1 a2).bind fun x1 =>
 bif decide (¬ x1 = (0 : Int)) then (some ((0 : Int), x1))
 else (joinK (f29_i403_c21 a0 a1) fun k0 =>
 f29_i403_3 a0 a1 a2 N k0 N (1 : Int) (List.replicate 169 (Choice.mk (0 : Int) (0 : Int) false (Cut.mk false (0 : Int)))))
def G29 (ds : List D) (d : D) : Prop := ∃ (N : Nat) (a0 : Int) (a1 : Int) (a2 : List Kind) (r : Int × Int), ds = [iN a0, iN a1, sl_Kind a2] ∧ f29 N a0 a1 a2 = some r ∧ d = .tup [iN r.1, iN r.2]
theorem G29.step {N : Nat} {a0 : Int} {a1 : Int} {a2 : List Kind} {ρ : Type} {A : (Int × Int) → Option ρ} {q : ρ} {ds : List D} {K : D → Prop} (hd : ds = [iN a0, iN a1, sl_Kind a2]) (h : ∀ r, A r = some q → K (.tup [iN r.1, iN r.2])) (hF : (f29 N a0 a1 a2).bind A = some q) : ∃ d, G29 ds d ∧ K d := by
  obtain ⟨r, hr, hA⟩ := bind_some hF
  exact ⟨_, ⟨N, a0, a1, a2, r, hd, hr, rfl⟩, h r hA⟩
set_option maxRecDepth 20000 in
set_option maxHeartbeats 4000000 in
theorem P29 : PureOK Try.prog 29 G29 := by
  refine pure_of_vc (c := mkCtx tyTree [(67, false, inlPg (mkCtx tyTree [(74, false, inlPg (mkCtx tyTree [(75, true, purePg [[0, 0, 0, 0, 0], [0, 0, 0, 0, 0]] G75)]) Try.f74), (49, true, purePg [[0], [0], [3]] G49)]) Try.f67), (66, true, purePg [[0], [0], [3]] G66)]) rfl tyOK (ctx_eff (callable Try.func67 rfl rfl) (CallOK.inl rfl tyOK (ctx_eff (callable Try.func74 rfl rfl) (CallOK.inl rfl tyOK (ctx_cons (callable Try.func75 rfl rfl) P75 (ctx_nil)) Try.func74 (by kernel_rfl)) (ctx_cons (callable Try.func49 rfl rfl) P49 (ctx_nil))) Try.func67 (by kernel_rfl)) (ctx_cons (callable Try.func66 rfl rfl) P66 (ctx_nil))) [[0], [0]] 3 Try.func29 rfl rfl (by decide) (by kernel_rfl) ?_
  rintro ds d ⟨N, a0, a1, a2, r, rfl, hF, rfl⟩ hok
  clear hok
  refine ⟨rfl, ?_⟩
  show vc _ _ _ _ ⟨[(0, .dat (iN a0)), (1, .dat (iN a1)), (2, .dat (sl_Kind a2))], []⟩ _
  unfold f29 at hF
  repeat' (first
    | ((with_reducible refine q0 _ _ ?_); clear Q q0 q1 q2)
    | ((with_reducible refine q1 _ _ _ _ ?_); clear Q q0 q1 q2)
    | ((with_reducible refine q2 _ _ _ ?_); clear Q q0 q1 q2)
    | ((with_reducible refine seq_op ?hx (fun Q q0 q1 q2 => ?_)); (case hx => exact rfl); conv => whnf)
    | ((with_reducible refine draw_op ?hx (fun Q q0 q1 q2 => ?_)); (case hx => exact rfl); conv => whnf)
    | ((with_reducible refine seq_op0 ?hx (fun Q q0 q1 q2 => ?_)); (case hx => exact rfl); conv => whnf)
    | ((with_reducible refine draw_op0 ?hx (fun Q q0 q1 q2 => ?_)); (case hx => exact rfl); conv => whnf)
    | ((with_reducible refine seq_off ?hx ?_); (case hx => exact rfl))
    | ((with_reducible refine seq_off0 ?hx ?_); (case hx => exact rfl))
    | ((with_reducible refine draw_off ?hx ?_); (case hx => exact rfl))
    | ((with_reducible refine draw_off0 ?hx ?_); (case hx => exact rfl))
    | ((with_reducible refine seq_id ?_); (first | ((refine seq_opK rfl ?hy (fun Q q0 q1 q2 => ?_)); (case hy => first | assumption | exact notT (by assumption) | exact rfl); conv => whnf) | ((refine seq_offK rfl ?hy ?_); (case hy => first | assumption | exact notF (by assumption) | exact rfl)) | ((refine seq_opK0 rfl ?hy (fun Q q0 q1 q2 => ?_)); (case hy => first | assumption | exact notT (by assumption) | exact rfl); conv => whnf) | ((refine seq_offK0 rfl ?hy ?_); (case hy => first | assumption | exact notF (by assumption) | exact rfl)) | (revert hF; (with_reducible refine seq_opF ?hx ?_ ?_); (case hx => exact rfl); (intro hc hF Q q0 q1 q2; conv => whnf); rotate_left; (intro hc hF); rotate_right) | (revert hF; (with_reducible refine seq_opN ?hx ?_ ?_); (case hx => exact rfl); (intro hc hF); rotate_left; (intro hc hF Q q0 q1 q2; conv => whnf); rotate_right) | (revert hF; (with_reducible refine seq_opF0 ?hx ?_ ?_); (case hx => exact rfl); (intro hc hF Q q0 q1 q2; conv => whnf); rotate_left; (intro hc hF); rotate_right) | (revert hF; (with_reducible refine seq_opN0 ?hx ?_ ?_); (case hx => exact rfl); (intro hc hF); rotate_left; (intro hc hF Q q0 q1 q2; conv => whnf); rotate_right)))
    | ((with_reducible refine draw_id ?_); (first | ((refine draw_opK rfl ?hy (fun Q q0 q1 q2 => ?_)); (case hy => first | assumption | exact notT (by assumption) | exact rfl); conv => whnf) | ((refine draw_offK rfl ?hy ?_); (case hy => first | assumption | exact notF (by assumption) | exact rfl)) | ((refine draw_opK0 rfl ?hy (fun Q q0 q1 q2 => ?_)); (case hy => first | assumption | exact notT (by assumption) | exact rfl); conv => whnf) | ((refine draw_offK0 rfl ?hy ?_); (case hy => first | assumption | exact notF (by assumption) | exact rfl)) | (revert hF; (with_reducible refine draw_opF ?hx ?_ ?_); (case hx => exact rfl); (intro hc hF Q q0 q1 q2; conv => whnf); rotate_left; (intro hc hF); rotate_right) | (revert hF; (with_reducible refine draw_opN ?hx ?_ ?_); (case hx => exact rfl); (intro hc hF); rotate_left; (intro hc hF Q q0 q1 q2; conv => whnf); rotate_right) | (revert hF; (with_reducible refine draw_opF0 ?hx ?_ ?_); (case hx => exact rfl); (intro hc hF Q q0 q1 q2; conv => whnf); rotate_left; (intro hc hF); rotate_right) | (revert hF; (with_reducible refine draw_opN0 ?hx ?_ ?_); (case hx => exact rfl); (intro hc hF); rotate_left; (intro hc hF Q q0 q1 q2; conv => whnf); rotate_right)))
    | ((with_reducible refine cond_id ?_); (first | ((refine condKT rfl ?hy ?_); (case hy => first | assumption | exact notT (by assumption) | exact rfl)) | ((refine condKF rfl ?hy ?_); (case hy => first | assumption | exact notF (by assumption) | exact rfl)) | (revert hF; (with_reducible refine condF ?hx ?_ ?_); (case hx => exact rfl); all_goals (intro hc hF))))
    | ((with_reducible refine seq_nil ?_); (first | ((with_reducible refine hR _ ?_); clear R hR) | ((with_reducible refine hL _ ?_); clear L hL)))
    | ((with_reducible refine draw_nil ?_); (with_reducible refine hR _ _ ?hx ?_); (case hx => kernel_rfl); (first | clear R hR | clear hR))
    | ((with_reducible refine int_step ?_); conv => whnf)
    | ((with_reducible refine len_step ?_); conv => whnf)
    | ((with_reducible refine idx2 (by assumption) ?_); conv => whnf)
    | ((with_reducible refine idx3 (by assumption) ?_); conv => whnf)
    | with_reducible refine vc_block ?_
    | with_reducible refine vc_skip ?_
    | with_reducible refine vc_ret ?_
    | with_reducible refine vc_exit ?_
    | ((with_reducible refine vc_seqN [404000000021, 404000000004, 404000000007, 404000000017, 404000000012] ?hx ?_); (case hx => exact rfl))
    | (with_reducible refine vc_region (fun R hR => ?_))
    | ((with_reducible refine vc_draw ?hx (fun R hR => ?_)); (case hx => exact rfl))
    | ((with_reducible refine vc_tail (n := 4) ?hx ?hn rfl rfl (fun R L hL hR => ?_)); (case hx => kernel_rfl); (case hn => exact rfl); simp only [List.take_succ_cons, List.take_zero, List.drop_succ_cons, List.drop_zero] at hR ⊢)
    | ((with_reducible refine vc_tail (n := 19) ?hx ?hn rfl rfl (fun R L hL hR => ?_)); (case hx => kernel_rfl); (case hn => exact rfl); simp only [List.take_succ_cons, List.take_zero, List.drop_succ_cons, List.drop_zero] at hR ⊢)
    | (revert hF; (refine Cf29_i403_c21 rfl rfl ?_ ?_); (intro hF); rotate_left; (intro b101 hF; unfold f29_i403_c21 at hF); rotate_right)
    | exact Zf29_i403_c21 hF rfl rfl rfl rfl
    | (revert hF; (refine Cf29_i403_c4 rfl rfl ?_ ?_); (intro hF); rotate_left; (intro b101' hF; unfold f29_i403_c4 at hF); rotate_right)
    | exact Zf29_i403_c4 hF rfl rfl rfl rfl
    | (revert hF; (refine Cf29_i403_c7 rfl rfl ?_ ?_); (intro hF); rotate_left; (intro b101'' hF; unfold f29_i403_c7 at hF); rotate_right)
    | exact Zf29_i403_c7 hF rfl rfl rfl rfl
    | (revert hF; (refine Lf29_i403_18 rfl rfl rfl rfl rfl ?_); intro n v15 b101'''' hF; unfold f29_i403_18b at hF)
    | exact Mf29_i403_18 hF rfl rfl rfl rfl
    | (revert hF; (refine Cf29_i403_c17 rfl rfl ?_ ?_); (intro hF); rotate_left; (intro b101''' hF; unfold f29_i403_c17 at hF); rotate_right)
    | exact Zf29_i403_c17 hF rfl rfl rfl rfl
    | (revert hF; (refine Lf29_i403_14 rfl rfl rfl rfl rfl ?_); intro n v14 b101''' hF; unfold f29_i403_14b at hF)
    | exact Mf29_i403_14 hF rfl rfl rfl rfl
    | (revert hF; (refine Cf29_i403_c12 rfl rfl ?_ ?_); (intro hF); rotate_left; (intro b101'' hF; unfold f29_i403_c12 at hF); rotate_right)
    | exact Zf29_i403_c12 hF rfl rfl rfl rfl
    | (revert hF; (refine Lf29_i403_6 rfl rfl rfl rfl rfl ?_); intro n v9 b101' hF; unfold f29_i403_6b at hF)
    | exact Mf29_i403_6 hF rfl rfl rfl rfl
    | (revert hF; (refine Lf29_i403_3 rfl rfl rfl rfl rfl ?_); intro n v8 b101 hF; unfold f29_i403_3b at hF)
    | exact Mf29_i403_3 hF rfl rfl rfl rfl
    | (revert hF; (with_reducible refine G49.step ?hx ?_); (case hx => exact rfl); intro v hF; conv => whnf)
    | (revert hF; (with_reducible refine G66.step ?hx ?_); (case hx => exact rfl); intro v hF; conv => whnf)
    | (revert hF; (with_reducible refine G75.step ?hx ?_); (case hx => exact rfl); intro v hF; conv => whnf)
    | ((with_reducible refine zeroA_step (flatC Choice.d (List.replicate 169 (Choice.mk (0 : Int) (0 : Int) false (Cut.mk false (0 : Int))))) ?hx ?_); (case hx => exact ⟨by kernel_rfl, by kernel_rfl⟩); conv => whnf)
    | ((with_reducible refine zeroD_step (flatC Choice.d (List.replicate 169 (Choice.mk (0 : Int) (0 : Int) false (Cut.mk false (0 : Int))))) ?hx ?_); (case hx => (unfold zeroD; kernel_rfl)); conv => whnf)
    | ((with_reducible refine chkI_go hF ?_); (clear hF; intro hF; conv => whnf))
    | ((with_reducible have hG := ixN_fact hF); clear hF; (first | (refine ixN_one hG (by (try simp only [W]); omega) (fun x hF => ?_)) | (refine ixN_agg hG (fun _ => rfl) (by (try simp only [W]); omega) (fun x hF => ?_)) | (refine ixN_field (s := 5) (f := 0) (fun x => iN x.worth) hG (fun _ => rfl) (fun _ => rfl) (by (try simp only [W]); omega) (fun x hF => ?_))); clear hG; conv => whnf)
    | ((with_reducible have hG := setN_fact hF); clear hF; (first | (refine setN_one hG (by (try simp only [W]); omega) rfl rfl (fun q hF => ?_)) | (refine setN_agg hG (fun _ => rfl) (by (try simp only [W]); omega) rfl rfl (fun q hF => ?_))); clear hG; conv => whnf)
    | with_reducible refine k_seq_ret ?_
    | with_reducible refine k_seq_exit ?_
    | with_reducible refine k_blk ?_
    | with_reducible refine k_blk_ret ?_
    | with_reducible refine k_blk_here ?_
    | ((with_reducible refine k_blk_out ?hx ?_); (case hx => exact rfl))
    | with_reducible refine k_loop_ret ?_
    | with_reducible refine k_loop_exit ?_
    | (revert hF; (with_reducible refine idx1 ?hn ?_); (case hn => first | exact rfl | exact (List.length_map _) | assumption | omega | simp); intro x hx hF; conv => whnf)
    | ((with_reducible have hG := sub_fact hF); clear hF; (first | (refine sub_step hG (fun q hF => ?_)) | (refine subrow_step hG ?hn (fun q hF => ?_); (case hn => first | exact rfl | assumption | omega))); clear hG; conv => whnf)
    | ((with_reducible have hG := app_fact hF); clear hF; (first | ((refine app_row hG ?hn ?hs (fun q hF => ?_)); (case hn => first | exact rfl | assumption | omega); (case hs => exact rfl)) ); clear hG; conv => whnf)
    | ((refine row_all ?hn ?_); (case hn => first | exact rfl | (simp; done) | (simp; omega)); conv => whnf)
    | ((with_reducible refine le_step ?hn ?_); (case hn => first | exact rfl | assumption | omega); conv => whnf)
    | ((with_reducible have hG := setx_fact hF); clear hF; (refine setx_step hG ?hs (fun q hl hF => ?_)); (case hs => exact rfl); clear hG; conv => whnf)
    | (revert hF; (with_reducible refine dem_step ?_ ?_); (intro hl hF; conv => whnf); rotate_left; (intro hF; conv => whnf); rotate_right)
    | ((refine ⟨?hx, ?_⟩); (case hx => exact ⟨rfl, Nat.le_of_ble_eq_true rfl, rfl⟩); conv => whnf)
    | ((with_reducible refine ex_step ?_); conv => whnf)
    | ((with_reducible have hG := chk_fact hF); clear hF; (refine ⟨?hx, ?_⟩); (case hx => (first | exact of_decide_eq_true hG.1 | exact hG.1)); have hF := hG.2; clear hG; conv => whnf)
    | ((with_reducible refine both_T ?hx ?_); (case hx => first | exact rfl | assumption | exact notT (by assumption)); conv => whnf)
    | ((with_reducible refine both_F ?hx ?_); (case hx => first | exact rfl | assumption | exact notF (by assumption)); conv => whnf)
    | (revert hF; (with_reducible refine ite_step ?_ ?_) <;> (intro hc hF; conv => whnf))
    | ((with_reducible refine vc_condT ?hx ?_); (case hx => exact rfl))
    | ((with_reducible refine vc_condF ?hx ?_); (case hx => exact rfl))
    | (show retD _ _ _ _ _ _; conv => whnf)
    | ((refine inl_step ?ha ?hb ?hc rfl ?_); (case ha => exact rfl); (case hb => omega); (case hc => exact Nat.le_of_ble_eq_true rfl))
    | (show Kinl _ _ _ _ _ _ _; conv => whnf)
    | ((with_reducible refine kinl_step ?ha ?hb ?_); (case ha => exact rfl); (case hb => exact rfl); conv => whnf)
    | ((refine ⟨?hx, trivial⟩); (case hx => (cases hF; exact rfl)))
    | ((refine ⟨?hx, ?_⟩); (case hx => decide); conv => whnf)
    | ((with_reducible refine k_seq ?_))
    | (have hF : (none : Option _) = some _ := hF; cases hF))
end Go.Vc
namespace Go.Vc
open Go.Proofs
set_option linter.unusedVariables false
set_option linter.unnecessarySimpa false
set_option linter.unusedSimpArgs false
/- f68: tusche/cut.Lay$1 -/
def f68b (self : Label → Int → Int → (List Choice) → (List Label) → Option ((List Label))) (N : Nat) (s0 : Label) (s1 : Int) (s2 : Int) (s3 : List Choice) (s4 : List Label) : Option ((List Label)) :=
 (chkI 13 s0.W).bind fun _ =>
 (chkI 13 s0.H).bind fun _ =>
 (ixN s3 (Int.toNat s0.W * 13 + Int.toNat s0.H)).bind fun x1 =>
 bif x1.sold then ((app 32 s4 [s0]).bind fun x2 =>
 some (x2))
 else (bif x1.cut.Up then ((self (Label.mk s0.X s0.Y x1.cut.At s0.H) s1 s2 s3 s4).bind fun x3 =>
 (self (Label.mk (W (s0.X + x1.cut.At)) s0.Y (W (s0.W - x1.cut.At)) s0.H) s1 s2 s3 x3).bind fun x4 =>
 some (x4))
 else (bif decide ((0 : Int) < x1.cut.At) then ((self (Label.mk s0.X s0.Y s0.W x1.cut.At) s1 s2 s3 s4).bind fun x5 =>
 (self (Label.mk s0.X (W (s0.Y + x1.cut.At)) s0.W (W (s0.H - x1.cut.At))) s1 s2 s3 x5).bind fun x6 =>
 some (x6))
 else (some (s4))))
def f68 : Nat → Label → Int → Int → (List Choice) → (List Label) → Option ((List Label))
  | 0, _, _, _, _, _ => none
  | N + 1, s0, s1, s2, s3, s4 => f68b (f68 N) N s0 s1 s2 s3 s4
def Af68 (s0 : Label) (s1 : Int) (s2 : Int) (s3 : List Choice) (s4 : List Label) : List SV := [.dat (.agg [iN s0.X, iN s0.Y, iN s0.W, iN s0.H]), .ptr 0 0, .ptr 1 0, .ptr 2 0]
def Bf68 (s0 : Label) (s1 : Int) (s2 : Int) (s3 : List Choice) (s4 : List Label) : List Blk := [.box [.ptr 3 0], .box [.dat (iN s1), .dat (iN s2), .rs 4 (List.length s4)], .box [.fn 68 [] [.ptr 0 0, .ptr 1 0, .ptr 2 0]], .arr (flatC Choice.d s3), .row 50 4 (List.map Label.d s4)]
def Rf68 (y : (List Label)) : List SV := []
def B1f68 (s0 : Label) (s1 : Int) (s2 : Int) (s3 : List Choice) (s4 : List Label) (y : (List Label)) : List Blk := [.box [.ptr 3 0], .box [.dat (iN s1), .dat (iN s2), .rs 500 (List.length y)], .box [.fn 68 [] [.ptr 0 0, .ptr 1 0, .ptr 2 0]], .arr (flatC Choice.d s3), .dead]
def BZf68 (y : (List Label)) : Blk := .row 50 4 (List.map Label.d y)
def Spf68 : Spec (Label × Int × Int × (List Choice) × (List Label)) ((List Label)) := ⟨5, fun x => Af68 x.1 x.2.1 x.2.2.1 x.2.2.2.1 x.2.2.2.2, fun x => Bf68 x.1 x.2.1 x.2.2.1 x.2.2.2.1 x.2.2.2.2, fun _ y => Rf68 y, fun x y => B1f68 x.1 x.2.1 x.2.2.1 x.2.2.2.1 x.2.2.2.2 y, fun _ y => BZf68 y⟩
def H68 (N : Nat) (x : Label × Int × Int × (List Choice) × (List Label)) (y : (List Label)) : Prop := f68 N x.1 x.2.1 x.2.2.1 x.2.2.2.1 x.2.2.2.2 = some y
def G68 (x : Label × Int × Int × (List Choice) × (List Label)) (y : (List Label)) : Prop := ∃ N, H68 N x y
theorem H68.step {N : Nat} {s0 : Label} {s1 : Int} {s2 : Int} {s3 : List Choice} {s4 : List Label} {ρ : Type} {A : (List Label) → Option ρ} {q : ρ} {xs : List SV} {id : Nat} {m : Nat → Blk} {l : List Loc} {K : Dl → List Loc → Prop} {k0 k1 k2 k3 k4 : Nat} (ha : xs = [.dat (.agg [iN s0.X, iN s0.Y, iN s0.W, iN s0.H]), .ptr k0 0, .ptr k1 0, .ptr k2 0]) (b0 : m k0 = .box [.ptr k3 0]) (b1 : m k1 = .box [.dat (iN s1), .dat (iN s2), .rs k4 (List.length s4)]) (b2 : m k2 = .box [.fn 68 [] [.ptr k0 0, .ptr k1 0, .ptr k2 0]]) (b3 : m k3 = .arr (flatC Choice.d s3)) (b4 : m k4 = .row 50 4 (List.map Label.d s4)) (hu : m id = .unborn) (hn : nodupB [k0, k1, k2, k3, k4] = true) (h : ∀ y, A y = some q → K ⟨.tup [], [(k0, .box [.ptr k3 0]), (k1, .box [.dat (iN s1), .dat (iN s2), .rs id (List.length y)]), (k2, .box [.fn 68 [] [.ptr k0 0, .ptr k1 0, .ptr k2 0]]), (k3, .arr (flatC Choice.d s3)), (k4, .dead), (id, .row 50 4 (List.map Label.d y))]⟩ l) (hF : (f68 N s0 s1 s2 s3 s4).bind A = some q) : effPg Spf68 (H68 N) xs id (fun _ => SV.no) m l K := by
  obtain ⟨y, hy, hA⟩ := bind_some hF
  exact eff_step [k0, k1, k2, k3, k4] (s0, s1, s2, s3, s4) y _ hy rfl hn ha (by simp only [List.map_cons, List.map_nil, b0, b1, b2, b3, b4]; rfl) hu rfl rfl (h y hA)
theorem G68.step {N : Nat} {s0 : Label} {s1 : Int} {s2 : Int} {s3 : List Choice} {s4 : List Label} {ρ : Type} {A : (List Label) → Option ρ} {q : ρ} {xs : List SV} {id : Nat} {m : Nat → Blk} {l : List Loc} {K : Dl → List Loc → Prop} {k0 k1 k2 k3 k4 : Nat} (ha : xs = [.dat (.agg [iN s0.X, iN s0.Y, iN s0.W, iN s0.H]), .ptr k0 0, .ptr k1 0, .ptr k2 0]) (b0 : m k0 = .box [.ptr k3 0]) (b1 : m k1 = .box [.dat (iN s1), .dat (iN s2), .rs k4 (List.length s4)]) (b2 : m k2 = .box [.fn 68 [] [.ptr k0 0, .ptr k1 0, .ptr k2 0]]) (b3 : m k3 = .arr (flatC Choice.d s3)) (b4 : m k4 = .row 50 4 (List.map Label.d s4)) (hu : m id = .unborn) (hn : nodupB [k0, k1, k2, k3, k4] = true) (h : ∀ y, A y = some q → K ⟨.tup [], [(k0, .box [.ptr k3 0]), (k1, .box [.dat (iN s1), .dat (iN s2), .rs id (List.length y)]), (k2, .box [.fn 68 [] [.ptr k0 0, .ptr k1 0, .ptr k2 0]]), (k3, .arr (flatC Choice.d s3)), (k4, .dead), (id, .row 50 4 (List.map Label.d y))]⟩ l) (hF : (f68 N s0 s1 s2 s3 s4).bind A = some q) : effPg Spf68 (G68) xs id (fun _ => SV.no) m l K := by
  obtain ⟨y, hy, hA⟩ := bind_some hF
  exact eff_step [k0, k1, k2, k3, k4] (s0, s1, s2, s3, s4) y _ ⟨N, hy⟩ rfl hn ha (by simp only [List.map_cons, List.map_nil, b0, b1, b2, b3, b4]; rfl) hu rfl rfl (h y hA)
def Srf68 : Ann := ⟨[], [0, 1, 2, 3, 4, 500], [(.cell 1 2, 500, 50, 4)], []⟩
set_option maxRecDepth 20000 in
set_option maxHeartbeats 4000000 in
theorem Q68 (N : Nat) : CallOK Try.prog 68 (effPg Spf68 (H68 N)) := by
  induction N with
  | zero => exact eff_none fun x y h => (by cases (show (none : Option ((List Label))) = some y from h))
  | succ N ih =>
    refine eff_of_vc (c := mkCtx tyTree [(68, false, effPg Spf68 (H68 N))]) rfl tyOK (ctx_eff (callable Try.func68 rfl rfl) ih (ctx_nil)) 1000 500 Srf68 Try.func68 rfl rfl (by kernel_rfl) rfl rfl rfl rfl rfl (fun _ => rfl) (fun _ => rfl) (fun _ _ => ⟨rfl, rfl⟩) ?_
    rintro ⟨s0, s1, s2, s3, s4⟩ y hF
    have hF : f68b (f68 N) N s0 s1 s2 s3 s4 = some y := hF
    show vc _ _ _ _ ⟨[(0, .dat (.agg [iN s0.X, iN s0.Y, iN s0.W, iN s0.H])), (1, .ptr 0 0), (2, .ptr 1 0), (3, .ptr 2 0)], [(0, .box [.ptr 3 0]), (1, .box [.dat (iN s1), .dat (iN s2), .rs 4 (List.length s4)]), (2, .box [.fn 68 [] [.ptr 0 0, .ptr 1 0, .ptr 2 0]]), (3, .arr (flatC Choice.d s3)), (4, .row 50 4 (List.map Label.d s4))]⟩ _
    unfold f68b at hF
    repeat' (first
      | ((with_reducible refine q0 _ _ ?_); clear Q q0 q1 q2)
      | ((with_reducible refine q1 _ _ _ _ ?_); clear Q q0 q1 q2)
      | ((with_reducible refine q2 _ _ _ ?_); clear Q q0 q1 q2)
      | ((with_reducible refine seq_op ?hx (fun Q q0 q1 q2 => ?_)); (case hx => exact rfl); conv => whnf)
      | ((with_reducible refine draw_op ?hx (fun Q q0 q1 q2 => ?_)); (case hx => exact rfl); conv => whnf)
      | ((with_reducible refine seq_op0 ?hx (fun Q q0 q1 q2 => ?_)); (case hx => exact rfl); conv => whnf)
      | ((with_reducible refine draw_op0 ?hx (fun Q q0 q1 q2 => ?_)); (case hx => exact rfl); conv => whnf)
      | ((with_reducible refine seq_off ?hx ?_); (case hx => exact rfl))
      | ((with_reducible refine seq_off0 ?hx ?_); (case hx => exact rfl))
      | ((with_reducible refine draw_off ?hx ?_); (case hx => exact rfl))
      | ((with_reducible refine draw_off0 ?hx ?_); (case hx => exact rfl))
      | ((with_reducible refine seq_id ?_); (first | ((refine seq_opK rfl ?hy (fun Q q0 q1 q2 => ?_)); (case hy => first | assumption | exact notT (by assumption) | exact rfl); conv => whnf) | ((refine seq_offK rfl ?hy ?_); (case hy => first | assumption | exact notF (by assumption) | exact rfl)) | ((refine seq_opK0 rfl ?hy (fun Q q0 q1 q2 => ?_)); (case hy => first | assumption | exact notT (by assumption) | exact rfl); conv => whnf) | ((refine seq_offK0 rfl ?hy ?_); (case hy => first | assumption | exact notF (by assumption) | exact rfl)) | (revert hF; (with_reducible refine seq_opF ?hx ?_ ?_); (case hx => exact rfl); (intro hc hF Q q0 q1 q2; conv => whnf); rotate_left; (intro hc hF); rotate_right) | (revert hF; (with_reducible refine seq_opN ?hx ?_ ?_); (case hx => exact rfl); (intro hc hF); rotate_left; (intro hc hF Q q0 q1 q2; conv => whnf); rotate_right) | (revert hF; (with_reducible refine seq_opF0 ?hx ?_ ?_); (case hx => exact rfl); (intro hc hF Q q0 q1 q2; conv => whnf); rotate_left; (intro hc hF); rotate_right) | (revert hF; (with_reducible refine seq_opN0 ?hx ?_ ?_); (case hx => exact rfl); (intro hc hF); rotate_left; (intro hc hF Q q0 q1 q2; conv => whnf); rotate_right)))
      | ((with_reducible refine draw_id ?_); (first | ((refine draw_opK rfl ?hy (fun Q q0 q1 q2 => ?_)); (case hy => first | assumption | exact notT (by assumption) | exact rfl); conv => whnf) | ((refine draw_offK rfl ?hy ?_); (case hy => first | assumption | exact notF (by assumption) | exact rfl)) | ((refine draw_opK0 rfl ?hy (fun Q q0 q1 q2 => ?_)); (case hy => first | assumption | exact notT (by assumption) | exact rfl); conv => whnf) | ((refine draw_offK0 rfl ?hy ?_); (case hy => first | assumption | exact notF (by assumption) | exact rfl)) | (revert hF; (with_reducible refine draw_opF ?hx ?_ ?_); (case hx => exact rfl); (intro hc hF Q q0 q1 q2; conv => whnf); rotate_left; (intro hc hF); rotate_right) | (revert hF; (with_reducible refine draw_opN ?hx ?_ ?_); (case hx => exact rfl); (intro hc hF); rotate_left; (intro hc hF Q q0 q1 q2; conv => whnf); rotate_right) | (revert hF; (with_reducible refine draw_opF0 ?hx ?_ ?_); (case hx => exact rfl); (intro hc hF Q q0 q1 q2; conv => whnf); rotate_left; (intro hc hF); rotate_right) | (revert hF; (with_reducible refine draw_opN0 ?hx ?_ ?_); (case hx => exact rfl); (intro hc hF); rotate_left; (intro hc hF Q q0 q1 q2; conv => whnf); rotate_right)))
      | ((with_reducible refine cond_id ?_); (first | ((refine condKT rfl ?hy ?_); (case hy => first | assumption | exact notT (by assumption) | exact rfl)) | ((refine condKF rfl ?hy ?_); (case hy => first | assumption | exact notF (by assumption) | exact rfl)) | (revert hF; (with_reducible refine condF ?hx ?_ ?_); (case hx => exact rfl); all_goals (intro hc hF))))
      | ((with_reducible refine seq_nil ?_); (first | ((with_reducible refine hR _ ?_); clear R hR) | ((with_reducible refine hL _ ?_); clear L hL)))
      | ((with_reducible refine draw_nil ?_); (with_reducible refine hR _ _ ?hx ?_); (case hx => kernel_rfl); (first | clear R hR | clear hR))
      | ((with_reducible refine int_step ?_); conv => whnf)
      | ((with_reducible refine len_step ?_); conv => whnf)
      | ((with_reducible refine idx2 (by assumption) ?_); conv => whnf)
      | ((with_reducible refine idx3 (by assumption) ?_); conv => whnf)
      | with_reducible refine vc_block ?_
      | with_reducible refine vc_skip ?_
      | with_reducible refine vc_ret ?_
      | with_reducible refine vc_exit ?_
      | ((with_reducible refine vc_seqN [] ?hx ?_); (case hx => exact rfl))
      | (with_reducible refine vc_region (fun R hR => ?_))
      | ((with_reducible refine vc_draw ?hx (fun R hR => ?_)); (case hx => exact rfl))
      | fail
      | (revert hF; (refine H68.step rfl rfl rfl rfl rfl rfl rfl ?hn ?_); (case hn => exact rfl); intro v hF; conv => whnf)
      | (show retE _ _ _ _ _ _; conv => whnf)
      | (cases hF; exact ⟨rfl, rfl, rfl⟩)
      | ((with_reducible refine chkI_go hF ?_); (clear hF; intro hF; conv => whnf))
      | ((with_reducible have hG := ixN_fact hF); clear hF; (first | (refine ixN_one hG (by (try simp only [W]); omega) (fun x hF => ?_)) | (refine ixN_agg hG (fun _ => rfl) (by (try simp only [W]); omega) (fun x hF => ?_))); clear hG; conv => whnf)
      | ((with_reducible have hG := setN_fact hF); clear hF; (first | (refine setN_one hG (by (try simp only [W]); omega) rfl rfl (fun q hF => ?_)) | (refine setN_agg hG (fun _ => rfl) (by (try simp only [W]); omega) rfl rfl (fun q hF => ?_))); clear hG; conv => whnf)
      | with_reducible refine k_seq_ret ?_
      | with_reducible refine k_seq_exit ?_
      | with_reducible refine k_blk ?_
      | with_reducible refine k_blk_ret ?_
      | with_reducible refine k_blk_here ?_
      | ((with_reducible refine k_blk_out ?hx ?_); (case hx => exact rfl))
      | with_reducible refine k_loop_ret ?_
      | with_reducible refine k_loop_exit ?_
      | (revert hF; (with_reducible refine idx1 ?hn ?_); (case hn => first | exact rfl | exact (List.length_map _) | assumption | omega | simp); intro x hx hF; conv => whnf)
      | ((with_reducible have hG := sub_fact hF); clear hF; (first | (refine sub_step hG (fun q hF => ?_)) | (refine subrow_step hG ?hn (fun q hF => ?_); (case hn => first | exact rfl | assumption | omega))); clear hG; conv => whnf)
      | ((with_reducible have hG := app_fact hF); clear hF; (first | ((refine app_row hG ?hn ?hs (fun q hF => ?_)); (case hn => first | exact rfl | assumption | omega); (case hs => exact rfl)) | ((refine app_nil (d := Label.d) hG ?hs (fun q hF => ?_)); (case hs => exact rfl)) | ((refine app_gen (d := Label.d) hG ?ho ?hn ?hs (fun q hF => ?_)); (case ho => exact rfl); (case hn => exact rfl); (case hs => exact rfl))); clear hG; conv => whnf)
      | ((refine row_all ?hn ?_); (case hn => first | exact rfl | (simp; done) | (simp; omega)); conv => whnf)
      | ((with_reducible refine le_step ?hn ?_); (case hn => first | exact rfl | assumption | omega); conv => whnf)
      | ((with_reducible have hG := setx_fact hF); clear hF; (refine setx_step hG ?hs (fun q hl hF => ?_)); (case hs => exact rfl); clear hG; conv => whnf)
      | (revert hF; (with_reducible refine dem_step ?_ ?_); (intro hl hF; conv => whnf); rotate_left; (intro hF; conv => whnf); rotate_right)
      | ((refine ⟨?hx, ?_⟩); (case hx => exact ⟨rfl, Nat.le_of_ble_eq_true rfl, rfl⟩); conv => whnf)
      | ((with_reducible refine ex_step ?_); conv => whnf)
      | ((with_reducible have hG := chk_fact hF); clear hF; (refine ⟨?hx, ?_⟩); (case hx => (first | exact of_decide_eq_true hG.1 | exact hG.1)); have hF := hG.2; clear hG; conv => whnf)
      | ((with_reducible refine both_T ?hx ?_); (case hx => first | exact rfl | assumption | exact notT (by assumption)); conv => whnf)
      | ((with_reducible refine both_F ?hx ?_); (case hx => first | exact rfl | assumption | exact notF (by assumption)); conv => whnf)
      | (revert hF; (with_reducible refine ite_step ?_ ?_) <;> (intro hc hF; conv => whnf))
      | ((with_reducible refine vc_condT ?hx ?_); (case hx => exact rfl))
      | ((with_reducible refine vc_condF ?hx ?_); (case hx => exact rfl))
      | (show retD _ _ _ _ _ _; conv => whnf)
      | ((refine inl_step ?ha ?hb ?hc rfl ?_); (case ha => exact rfl); (case hb => omega); (case hc => exact Nat.le_of_ble_eq_true rfl))
      | (show Kinl _ _ _ _ _ _ _; conv => whnf)
      | ((with_reducible refine kinl_step ?ha ?hb ?_); (case ha => exact rfl); (case hb => exact rfl); conv => whnf)
      | ((refine ⟨?hx, trivial⟩); (case hx => (cases hF; exact rfl)))
      | ((refine ⟨?hx, ?_⟩); (case hx => decide); conv => whnf)
      | ((with_reducible refine k_seq ?_))
      | (have hF : (none : Option _) = some _ := hF; cases hF))
theorem P68 : CallOK Try.prog 68 (effPg Spf68 G68) := eff_ex Q68
end Go.Vc
namespace Go.Vc
open Go.Proofs
set_option linter.unusedVariables false
set_option linter.unnecessarySimpa false
set_option linter.unusedSimpArgs false
/- f31: tusche/cut.Lay -/
def f31_c10 (a0 : Int) (a1 : Int) (N : Nat) (b101 : List Choice) (b703_2 : List Label) : Option (Layout × Int) :=
 (f68 N (Label.mk (0 : Int) (0 : Int) a0 a1) a0 a1 b101 b703_2).bind fun x3 =>
 some ((Layout.mk a0 a1 x3), (0 : Int))
def Sf31_c10 : Ann := ⟨[0, 1, 6, 10, 11], [0, 404, 703, 800, 90500, 404000101], [(.cell 703 2, 90500, 50, 4)], []⟩
def Vf31_c10 (a0 : Int) (a1 : Int) (b101 : List Choice) (b703_2 : List Label) : List SV := [.dat (iN a0), .dat (iN a1), .ptr 0 0, .ptr 703 0, .ptr 800 0]
def Bf31_c10 (a0 : Int) (a1 : Int) (b101 : List Choice) (b703_2 : List Label) : List Blk := [.box [.dat (iN (0 : Int)), .dat (iN (0 : Int)), .nil], .box [.ptr 404000101 0], .box [.dat (iN a0), .dat (iN a1), .rs 90500 (List.length b703_2)], .box [.fn 68 [] [.ptr 404 0, .ptr 703 0, .ptr 800 0]], .row 50 4 (List.map Label.d b703_2), .arr (flatC Choice.d b101)]
theorem Cf31_c10 {c : Ctx} {p nid : Nat} {a b : Code} {st : St} {K : Ex → St → Prop} {r : Layout × Int} {a0 : Int} {a1 : Int} {N : Nat} {b101 : List Choice} {g : _ → Option (Layout × Int)} (hn : Nat.beq (nid * 1000 + firstRegion b) 10 = true) (hz : Sf31_c10.ok p = true)
    (h : g (f31_c10 a0 a1 N b101) = some r → vc c p nid a st (Kseq (fun st' => st'.head Sf31_c10 fun v bl => ∃ x, (fun y : (List Label) => f31_c10 a0 a1 N b101 y = some r) x ∧ v = (fun y : (List Label) => Vf31_c10 a0 a1 b101 y) x ∧ bl = (fun y : (List Label) => Bf31_c10 a0 a1 b101 y) x) K))
    (h2 : ∀ (b703_2 : List Label), f31_c10 a0 a1 N b101 b703_2 = some r → vc c p nid b (St.mk' Sf31_c10 (Vf31_c10 a0 a1 b101 b703_2) (Bf31_c10 a0 a1 b101 b703_2)) K) (hF : joinK (f31_c10 a0 a1 N b101) g = some r) : vc c p nid (.seq a b) st K :=
  vc_cut Sf31_c10 (fun y : (List Label) => Vf31_c10 a0 a1 b101 y) (fun y : (List Label) => Bf31_c10 a0 a1 b101 y) (fun y : (List Label) => f31_c10 a0 a1 N b101 y = some r) hz (h hF) fun y hy => h2 y hy
def V2f31_c10 (a0 : Int) (a1 : Int) (b101 : List Choice) (b703_2 : List Label) (m0 : Nat) : List SV := [.dat (iN a0), .dat (iN a1), .ptr 0 0, .ptr 703 0, .ptr 800 0]
def B2f31_c10 (a0 : Int) (a1 : Int) (b101 : List Choice) (b703_2 : List Label) (m0 : Nat) : List Blk := [.box [.dat (iN (0 : Int)), .dat (iN (0 : Int)), .nil], .box [.ptr 404000101 0], .box [.dat (iN a0), .dat (iN a1), .rs 90500 m0], .box [.fn 68 [] [.ptr 404 0, .ptr 703 0, .ptr 800 0]], .row 50 4 (List.map Label.d b703_2), .arr (flatC Choice.d b101)]
theorem Zf31_c10 {K : Ex → St → Prop} {r : Layout × Int} {a0 : Int} {a1 : Int} {N : Nat} {b101 : List Choice} {b703_2 : List Label} {m0 : Nat} {st st' : St} (hF : f31_c10 a0 a1 N b101 b703_2 = some r) (h1 : st.norm Sf31_c10 = some st') (h2 : st'.cutOk Sf31_c10.keep Sf31_c10.bs (memB Sf31_c10.bs) = true) (h3 : vals Sf31_c10.keep st'.e = V2f31_c10 a0 a1 b101 b703_2 m0) (h4 : blks Sf31_c10.bs st'.m = B2f31_c10 a0 a1 b101 b703_2 m0) (em0 : m0 = List.length b703_2) :
    Kseq (fun st' => st'.head Sf31_c10 fun v bl => ∃ x, (fun y : (List Label) => f31_c10 a0 a1 N b101 y = some r) x ∧ v = (fun y : (List Label) => Vf31_c10 a0 a1 b101 y) x ∧ bl = (fun y : (List Label) => Bf31_c10 a0 a1 b101 y) x) K .normal st := by
  subst em0; exact k_seq (head_in (I := (fun y : (List Label) => f31_c10 a0 a1 N b101 y = some r)) (x := (b703_2)) hF h1 h2 h3 h4)
def f31_i403_c21 (a0 : Int) (a1 : Int) (N : Nat) (b101 : List Choice) : Option (Layout × Int) :=
 (chkI 13 a0).bind fun _ =>
 (chkI 13 a1).bind fun _ =>
 (ixN b101 (Int.toNat a0 * 13 + Int.toNat a1)).bind fun x2 =>
 bif decide ((10 : Int) < x2.labels) then (some ((Layout.mk (0 : Int) (0 : Int) []), (16 : Int)))
 else (joinK (f31_c10 a0 a1 N b101) fun k0 =>
 k0 [])
def Sf31_i403_c21 : Ann := ⟨[7], [0, 404000101], [], []⟩
def Vf31_i403_c21 (b101 : List Choice) : List SV := [.ptr 404000101 0]
def Bf31_i403_c21 (b101 : List Choice) : List Blk := [.box [.dat (iN (0 : Int)), .dat (iN (0 : Int)), .nil], .arr (flatC Choice.d b101)]
theorem Cf31_i403_c21 {c : Ctx} {p nid : Nat} {a b : Code} {st : St} {K : Ex → St → Prop} {r : Layout × Int} {a0 : Int} {a1 : Int} {N : Nat} {g : _ → Option (Layout × Int)} (hn : Nat.beq (nid * 1000 + firstRegion b) 404000000021 = true) (hz : Sf31_i403_c21.ok p = true)
    (h : g (f31_i403_c21 a0 a1 N) = some r → vc c p nid a st (Kseq (fun st' => st'.head Sf31_i403_c21 fun v bl => ∃ x, (fun y : (List Choice) => f31_i403_c21 a0 a1 N y = some r) x ∧ v = (fun y : (List Choice) => Vf31_i403_c21  y) x ∧ bl = (fun y : (List Choice) => Bf31_i403_c21  y) x) K))
    (h2 : ∀ (b101 : List Choice), f31_i403_c21 a0 a1 N b101 = some r → vc c p nid b (St.mk' Sf31_i403_c21 (Vf31_i403_c21  b101) (Bf31_i403_c21  b101)) K) (hF : joinK (f31_i403_c21 a0 a1 N) g = some r) : vc c p nid (.seq a b) st K :=
  vc_cut Sf31_i403_c21 (fun y : (List Choice) => Vf31_i403_c21  y) (fun y : (List Choice) => Bf31_i403_c21  y) (fun y : (List Choice) => f31_i403_c21 a0 a1 N y = some r) hz (h hF) fun y hy => h2 y hy
theorem Zf31_i403_c21 {K : Ex → St → Prop} {r : Layout × Int} {a0 : Int} {a1 : Int} {N : Nat} {b101 : List Choice} {st st' : St} (hF : f31_i403_c21 a0 a1 N b101 = some r) (h1 : st.norm Sf31_i403_c21 = some st') (h2 : st'.cutOk Sf31_i403_c21.keep Sf31_i403_c21.bs (memB Sf31_i403_c21.bs) = true) (h3 : vals Sf31_i403_c21.keep st'.e = Vf31_i403_c21  b101) (h4 : blks Sf31_i403_c21.bs st'.m = Bf31_i403_c21  b101) :
    Kseq (fun st' => st'.head Sf31_i403_c21 fun v bl => ∃ x, (fun y : (List Choice) => f31_i403_c21 a0 a1 N y = some r) x ∧ v = (fun y : (List Choice) => Vf31_i403_c21  y) x ∧ bl = (fun y : (List Choice) => Bf31_i403_c21  y) x) K .normal st := by
  exact k_seq (head_in (I := (fun y : (List Choice) => f31_i403_c21 a0 a1 N y = some r)) (x := (b101)) hF h1 h2 h3 h4)
def f31_i403_c4 (a0 : Int) (a1 : Int) (a2 : List Kind) (v8 : Int) (r3 : Int → (List Choice) → Option (Layout × Int)) (b101' : List Choice) : Option (Layout × Int) :=
 r3 (W (v8 + (1 : Int))) (b101')
def Sf31_i403_c4 : Ann := ⟨[0, 1, 2, 7, 8], [0, 404000101], [], []⟩
def Vf31_i403_c4 (a0 : Int) (a1 : Int) (a2 : List Kind) (v8 : Int) (b101' : List Choice) : List SV := [.dat (iN a0), .dat (iN a1), .dat (sl_Kind a2), .ptr 404000101 0, .dat (iN v8)]
def Bf31_i403_c4 (a0 : Int) (a1 : Int) (a2 : List Kind) (v8 : Int) (b101' : List Choice) : List Blk := [.box [.dat (iN (0 : Int)), .dat (iN (0 : Int)), .nil], .arr (flatC Choice.d (b101'))]
theorem Cf31_i403_c4 {c : Ctx} {p nid : Nat} {a b : Code} {st : St} {K : Ex → St → Prop} {r : Layout × Int} {a0 : Int} {a1 : Int} {a2 : List Kind} {v8 : Int} {r3 : Int → (List Choice) → Option (Layout × Int)} {g : _ → Option (Layout × Int)} (hn : Nat.beq (nid * 1000 + firstRegion b) 404000000004 = true) (hz : Sf31_i403_c4.ok p = true)
    (h : g (f31_i403_c4 a0 a1 a2 v8 r3) = some r → vc c p nid a st (Kseq (fun st' => st'.head Sf31_i403_c4 fun v bl => ∃ x, (fun y : (List Choice) => f31_i403_c4 a0 a1 a2 v8 r3 y = some r) x ∧ v = (fun y : (List Choice) => Vf31_i403_c4 a0 a1 a2 v8 y) x ∧ bl = (fun y : (List Choice) => Bf31_i403_c4 a0 a1 a2 v8 y) x) K))
    (h2 : ∀ (b101' : List Choice), f31_i403_c4 a0 a1 a2 v8 r3 b101' = some r → vc c p nid b (St.mk' Sf31_i403_c4 (Vf31_i403_c4 a0 a1 a2 v8 b101') (Bf31_i403_c4 a0 a1 a2 v8 b101')) K) (hF : joinK (f31_i403_c4 a0 a1 a2 v8 r3) g = some r) : vc c p nid (.seq a b) st K :=
  vc_cut Sf31_i403_c4 (fun y : (List Choice) => Vf31_i403_c4 a0 a1 a2 v8 y) (fun y : (List Choice) => Bf31_i403_c4 a0 a1 a2 v8 y) (fun y : (List Choice) => f31_i403_c4 a0 a1 a2 v8 r3 y = some r) hz (h hF) fun y hy => h2 y hy
theorem Zf31_i403_c4 {K : Ex → St → Prop} {r : Layout × Int} {a0 : Int} {a1 : Int} {a2 : List Kind} {v8 : Int} {r3 : Int → (List Choice) → Option (Layout × Int)} {b101' : List Choice} {st st' : St} (hF : f31_i403_c4 a0 a1 a2 v8 r3 b101' = some r) (h1 : st.norm Sf31_i403_c4 = some st') (h2 : st'.cutOk Sf31_i403_c4.keep Sf31_i403_c4.bs (memB Sf31_i403_c4.bs) = true) (h3 : vals Sf31_i403_c4.keep st'.e = Vf31_i403_c4 a0 a1 a2 v8 b101') (h4 : blks Sf31_i403_c4.bs st'.m = Bf31_i403_c4 a0 a1 a2 v8 b101') :
    Kseq (fun st' => st'.head Sf31_i403_c4 fun v bl => ∃ x, (fun y : (List Choice) => f31_i403_c4 a0 a1 a2 v8 r3 y = some r) x ∧ v = (fun y : (List Choice) => Vf31_i403_c4 a0 a1 a2 v8 y) x ∧ bl = (fun y : (List Choice) => Bf31_i403_c4 a0 a1 a2 v8 y) x) K .normal st := by
  exact k_seq (head_in (I := (fun y : (List Choice) => f31_i403_c4 a0 a1 a2 v8 r3 y = some r)) (x := (b101')) hF h1 h2 h3 h4)
def f31_i403_c7 (a0 : Int) (a1 : Int) (a2 : List Kind) (v8 : Int) (v9 : Int) (r6 : Int → (List Choice) → Option (Layout × Int)) (b101'' : List Choice) : Option (Layout × Int) :=
 r6 (W (v9 + (1 : Int))) (b101'')
def Sf31_i403_c7 : Ann := ⟨[0, 1, 2, 7, 8, 9], [0, 404000101], [], []⟩
def Vf31_i403_c7 (a0 : Int) (a1 : Int) (a2 : List Kind) (v8 : Int) (v9 : Int) (b101'' : List Choice) : List SV := [.dat (iN a0), .dat (iN a1), .dat (sl_Kind a2), .ptr 404000101 0, .dat (iN v8), .dat (iN v9)]
def Bf31_i403_c7 (a0 : Int) (a1 : Int) (a2 : List Kind) (v8 : Int) (v9 : Int) (b101'' : List Choice) : List Blk := [.box [.dat (iN (0 : Int)), .dat (iN (0 : Int)), .nil], .arr (flatC Choice.d (b101''))]
theorem Cf31_i403_c7 {c : Ctx} {p nid : Nat} {a b : Code} {st : St} {K : Ex → St → Prop} {r : Layout × Int} {a0 : Int} {a1 : Int} {a2 : List Kind} {v8 : Int} {v9 : Int} {r6 : Int → (List Choice) → Option (Layout × Int)} {g : _ → Option (Layout × Int)} (hn : Nat.beq (nid * 1000 + firstRegion b) 404000000007 = true) (hz : Sf31_i403_c7.ok p = true)
    (h : g (f31_i403_c7 a0 a1 a2 v8 v9 r6) = some r → vc c p nid a st (Kseq (fun st' => st'.head Sf31_i403_c7 fun v bl => ∃ x, (fun y : (List Choice) => f31_i403_c7 a0 a1 a2 v8 v9 r6 y = some r) x ∧ v = (fun y : (List Choice) => Vf31_i403_c7 a0 a1 a2 v8 v9 y) x ∧ bl = (fun y : (List Choice) => Bf31_i403_c7 a0 a1 a2 v8 v9 y) x) K))
    (h2 : ∀ (b101'' : List Choice), f31_i403_c7 a0 a1 a2 v8 v9 r6 b101'' = some r → vc c p nid b (St.mk' Sf31_i403_c7 (Vf31_i403_c7 a0 a1 a2 v8 v9 b101'') (Bf31_i403_c7 a0 a1 a2 v8 v9 b101'')) K) (hF : joinK (f31_i403_c7 a0 a1 a2 v8 v9 r6) g = some r) : vc c p nid (.seq a b) st K :=
  vc_cut Sf31_i403_c7 (fun y : (List Choice) => Vf31_i403_c7 a0 a1 a2 v8 v9 y) (fun y : (List Choice) => Bf31_i403_c7 a0 a1 a2 v8 v9 y) (fun y : (List Choice) => f31_i403_c7 a0 a1 a2 v8 v9 r6 y = some r) hz (h hF) fun y hy => h2 y hy
theorem Zf31_i403_c7 {K : Ex → St → Prop} {r : Layout × Int} {a0 : Int} {a1 : Int} {a2 : List Kind} {v8 : Int} {v9 : Int} {r6 : Int → (List Choice) → Option (Layout × Int)} {b101'' : List Choice} {st st' : St} (hF : f31_i403_c7 a0 a1 a2 v8 v9 r6 b101'' = some r) (h1 : st.norm Sf31_i403_c7 = some st') (h2 : st'.cutOk Sf31_i403_c7.keep Sf31_i403_c7.bs (memB Sf31_i403_c7.bs) = true) (h3 : vals Sf31_i403_c7.keep st'.e = Vf31_i403_c7 a0 a1 a2 v8 v9 b101'') (h4 : blks Sf31_i403_c7.bs st'.m = Bf31_i403_c7 a0 a1 a2 v8 v9 b101'') :
    Kseq (fun st' => st'.head Sf31_i403_c7 fun v bl => ∃ x, (fun y : (List Choice) => f31_i403_c7 a0 a1 a2 v8 v9 r6 y = some r) x ∧ v = (fun y : (List Choice) => Vf31_i403_c7 a0 a1 a2 v8 v9 y) x ∧ bl = (fun y : (List Choice) => Bf31_i403_c7 a0 a1 a2 v8 v9 y) x) K .normal st := by
  exact k_seq (head_in (I := (fun y : (List Choice) => f31_i403_c7 a0 a1 a2 v8 v9 r6 y = some r)) (x := (b101'')) hF h1 h2 h3 h4)
def f31_i403_18b (r18 : Int → (List Choice) → Option (Layout × Int)) (a0 : Int) (a1 : Int) (a2 : List Kind) (N : Nat) (v8 : Int) (v9 : Int) (k3 : (List Choice) → Option (Layout × Int)) (v15 : Int) (b101'''' : List Choice) : Option (Layout × Int) :=
 bif decide (v15 < v9) then ((chkI 13 v8).bind fun _ =>
 (chkI 13 v15).bind fun _ =>
 (ixN (b101'''') (Int.toNat v8 * 13 + Int.toNat v15)).bind fun x4 =>
 (chkI 13 v8).bind fun _ =>
 (chkI 13 (W (v9 - v15))).bind fun _ =>
 (ixN (b101'''') (Int.toNat v8 * 13 + Int.toNat (W (v9 - v15)))).bind fun x5 =>
 (ixN (b101'''') (Int.toNat v8 * 13 + Int.toNat v9)).bind fun x6 =>
 (f75 N (Choice.mk (W (x4.worth + x5.worth)) (W (x4.labels + x5.labels)) false (Cut.mk false v15)) x6).bind fun x7 =>
 bif x7 then ((setN (b101'''') (Int.toNat v8 * 13 + Int.toNat v9) (Choice.mk (W (x4.worth + x5.worth)) (W (x4.labels + x5.labels)) false (Cut.mk false v15))).bind fun x8 =>
 r18 (W (v15 + (1 : Int))) x8)
 else (r18 (W (v15 + (1 : Int))) (b101'''')))
 else (k3 (b101''''))
def f31_i403_18 (a0 : Int) (a1 : Int) (a2 : List Kind) (N : Nat) (v8 : Int) (v9 : Int) (k3 : (List Choice) → Option (Layout × Int)) : Nat → Int → (List Choice) → Option (Layout × Int)
  | 0, _, _ => none
  | n + 1, v15, b101'''' => f31_i403_18b (f31_i403_18 a0 a1 a2 N v8 v9 k3 n) a0 a1 a2 N v8 v9 k3 v15 b101''''
def Sf31_i403_18 : Ann := ⟨[0, 1, 2, 7, 8, 9, 13, 15], [0, 404000101, 404000806], [], []⟩
def Vf31_i403_18 (a0 : Int) (a1 : Int) (a2 : List Kind) (v8 : Int) (v9 : Int) (v15 : Int) (b101'''' : List Choice) : List SV := [.dat (iN a0), .dat (iN a1), .dat (sl_Kind a2), .ptr 404000101 0, .dat (iN v8), .dat (iN v9), .fn 74 [] [.ptr 404000806 0], .dat (iN v15)]
def Bf31_i403_18 (a0 : Int) (a1 : Int) (a2 : List Kind) (v8 : Int) (v9 : Int) (v15 : Int) (b101'''' : List Choice) : List Blk := [.box [.dat (iN (0 : Int)), .dat (iN (0 : Int)), .nil], .arr (flatC Choice.d (b101'''')), .box [.ptr 404000101 (0 + Int.toNat v8 * 65 + Int.toNat v9 * 5)]]
theorem Lf31_i403_18 {c : Ctx} {p nid : Nat} {a : Code} {K : Ex → St → Prop} {r : Layout × Int} {a0 : Int} {a1 : Int} {a2 : List Kind} {N : Nat} {v8 : Int} {v9 : Int} {k3 : (List Choice) → Option (Layout × Int)} {fu : Nat} {v15 : Int} {b101'''' : List Choice} {st st' : St} (hz : Sf31_i403_18.ok p = true) (h1 : st.norm Sf31_i403_18 = some st') (h2 : st'.cutOk Sf31_i403_18.keep Sf31_i403_18.bs (memB Sf31_i403_18.bs) = true) (h3 : vals Sf31_i403_18.keep st'.e = Vf31_i403_18 a0 a1 a2 v8 v9 v15 b101'''') (h4 : blks Sf31_i403_18.bs st'.m = Bf31_i403_18 a0 a1 a2 v8 v9 v15 b101'''')
    (h : ∀ (n : Nat) (v15 : Int) (b101'''' : List Choice), f31_i403_18b (f31_i403_18 a0 a1 a2 N v8 v9 k3 n) a0 a1 a2 N v8 v9 k3 v15 b101'''' = some r → vc c p nid a (St.mk' Sf31_i403_18 (Vf31_i403_18 a0 a1 a2 v8 v9 v15 b101'''') (Bf31_i403_18 a0 a1 a2 v8 v9 v15 b101'''')) (Kloop Sf31_i403_18 (fun y : Nat × Int × (List Choice) => Vf31_i403_18 a0 a1 a2 v8 v9 y.2.1 y.2.2) (fun y : Nat × Int × (List Choice) => Bf31_i403_18 a0 a1 a2 v8 v9 y.2.1 y.2.2) (fun y : Nat × Int × (List Choice) => f31_i403_18 a0 a1 a2 N v8 v9 k3 y.1 y.2.1 y.2.2 = some r) (fun y : Nat × Int × (List Choice) => y.1) (n + 1, v15, b101'''') K)) (hF : f31_i403_18 a0 a1 a2 N v8 v9 k3 fu v15 b101'''' = some r) : vc c p nid (.loop a) st K := by
  refine vc_loop Sf31_i403_18 (fun y : Nat × Int × (List Choice) => Vf31_i403_18 a0 a1 a2 v8 v9 y.2.1 y.2.2) (fun y : Nat × Int × (List Choice) => Bf31_i403_18 a0 a1 a2 v8 v9 y.2.1 y.2.2) (fun y : Nat × Int × (List Choice) => f31_i403_18 a0 a1 a2 N v8 v9 k3 y.1 y.2.1 y.2.2 = some r) (fun y : Nat × Int × (List Choice) => y.1) hz (head_in (x := (fu, v15, b101'''')) hF h1 h2 h3 h4) ?_
  rintro ⟨_ | n, v15, b101''''⟩ hI
  · cases hI
  · exact h n v15 b101'''' hI
theorem Mf31_i403_18 {K : Ex → St → Prop} {r : Layout × Int} {a0 : Int} {a1 : Int} {a2 : List Kind} {N : Nat} {v8 : Int} {v9 : Int} {k3 : (List Choice) → Option (Layout × Int)} {n : Nat} {v15 : Int} {b101'''' : List Choice} {v15_ : Int} {b101''''_ : List Choice} {st st' : St} (hF : f31_i403_18 a0 a1 a2 N v8 v9 k3 n v15 b101'''' = some r) (h1 : st.norm Sf31_i403_18 = some st') (h2 : st'.cutOk Sf31_i403_18.keep Sf31_i403_18.bs (memB Sf31_i403_18.bs) = true) (h3 : vals Sf31_i403_18.keep st'.e = Vf31_i403_18 a0 a1 a2 v8 v9 v15 b101'''') (h4 : blks Sf31_i403_18.bs st'.m = Bf31_i403_18 a0 a1 a2 v8 v9 v15 b101'''') :
    Kloop Sf31_i403_18 (fun y : Nat × Int × (List Choice) => Vf31_i403_18 a0 a1 a2 v8 v9 y.2.1 y.2.2) (fun y : Nat × Int × (List Choice) => Bf31_i403_18 a0 a1 a2 v8 v9 y.2.1 y.2.2) (fun y : Nat × Int × (List Choice) => f31_i403_18 a0 a1 a2 N v8 v9 k3 y.1 y.2.1 y.2.2 = some r) (fun y : Nat × Int × (List Choice) => y.1) (n + 1, v15_, b101''''_) K .normal st := by
  exact head_back (y := (n, v15, b101'''')) hF (Nat.lt_succ_self n) h1 h2 h3 h4
def f31_i403_c17 (a0 : Int) (a1 : Int) (a2 : List Kind) (N : Nat) (v8 : Int) (v9 : Int) (k3 : (List Choice) → Option (Layout × Int)) (b101''' : List Choice) : Option (Layout × Int) :=
 f31_i403_18 a0 a1 a2 N v8 v9 k3 N (1 : Int) (b101''')
def Sf31_i403_c17 : Ann := ⟨[0, 1, 2, 7, 8, 9, 13], [0, 404000101, 404000806], [], []⟩
def Vf31_i403_c17 (a0 : Int) (a1 : Int) (a2 : List Kind) (v8 : Int) (v9 : Int) (b101''' : List Choice) : List SV := [.dat (iN a0), .dat (iN a1), .dat (sl_Kind a2), .ptr 404000101 0, .dat (iN v8), .dat (iN v9), .fn 74 [] [.ptr 404000806 0]]
def Bf31_i403_c17 (a0 : Int) (a1 : Int) (a2 : List Kind) (v8 : Int) (v9 : Int) (b101''' : List Choice) : List Blk := [.box [.dat (iN (0 : Int)), .dat (iN (0 : Int)), .nil], .arr (flatC Choice.d (b101''')), .box [.ptr 404000101 (0 + Int.toNat v8 * 65 + Int.toNat v9 * 5)]]
theorem Cf31_i403_c17 {c : Ctx} {p nid : Nat} {a b : Code} {st : St} {K : Ex → St → Prop} {r : Layout × Int} {a0 : Int} {a1 : Int} {a2 : List Kind} {N : Nat} {v8 : Int} {v9 : Int} {k3 : (List Choice) → Option (Layout × Int)} {g : _ → Option (Layout × Int)} (hn : Nat.beq (nid * 1000 + firstRegion b) 404000000017 = true) (hz : Sf31_i403_c17.ok p = true)
    (h : g (f31_i403_c17 a0 a1 a2 N v8 v9 k3) = some r → vc c p nid a st (Kseq (fun st' => st'.head Sf31_i403_c17 fun v bl => ∃ x, (fun y : (List Choice) => f31_i403_c17 a0 a1 a2 N v8 v9 k3 y = some r) x ∧ v = (fun y : (List Choice) => Vf31_i403_c17 a0 a1 a2 v8 v9 y) x ∧ bl = (fun y : (List Choice) => Bf31_i403_c17 a0 a1 a2 v8 v9 y) x) K))
    (h2 : ∀ (b101''' : List Choice), f31_i403_c17 a0 a1 a2 N v8 v9 k3 b101''' = some r → vc c p nid b (St.mk' Sf31_i403_c17 (Vf31_i403_c17 a0 a1 a2 v8 v9 b101''') (Bf31_i403_c17 a0 a1 a2 v8 v9 b101''')) K) (hF : joinK (f31_i403_c17 a0 a1 a2 N v8 v9 k3) g = some r) : vc c p nid (.seq a b) st K :=
  vc_cut Sf31_i403_c17 (fun y : (List Choice) => Vf31_i403_c17 a0 a1 a2 v8 v9 y) (fun y : (List Choice) => Bf31_i403_c17 a0 a1 a2 v8 v9 y) (fun y : (List Choice) => f31_i403_c17 a0 a1 a2 N v8 v9 k3 y = some r) hz (h hF) fun y hy => h2 y hy
theorem Zf31_i403_c17 {K : Ex → St → Prop} {r : Layout × Int} {a0 : Int} {a1 : Int} {a2 : List Kind} {N : Nat} {v8 : Int} {v9 : Int} {k3 : (List Choice) → Option (Layout × Int)} {b101''' : List Choice} {st st' : St} (hF : f31_i403_c17 a0 a1 a2 N v8 v9 k3 b101''' = some r) (h1 : st.norm Sf31_i403_c17 = some st') (h2 : st'.cutOk Sf31_i403_c17.keep Sf31_i403_c17.bs (memB Sf31_i403_c17.bs) = true) (h3 : vals Sf31_i403_c17.keep st'.e = Vf31_i403_c17 a0 a1 a2 v8 v9 b101''') (h4 : blks Sf31_i403_c17.bs st'.m = Bf31_i403_c17 a0 a1 a2 v8 v9 b101''') :
    Kseq (fun st' => st'.head Sf31_i403_c17 fun v bl => ∃ x, (fun y : (List Choice) => f31_i403_c17 a0 a1 a2 N v8 v9 k3 y = some r) x ∧ v = (fun y : (List Choice) => Vf31_i403_c17 a0 a1 a2 v8 v9 y) x ∧ bl = (fun y : (List Choice) => Bf31_i403_c17 a0 a1 a2 v8 v9 y) x) K .normal st := by
  exact k_seq (head_in (I := (fun y : (List Choice) => f31_i403_c17 a0 a1 a2 N v8 v9 k3 y = some r)) (x := (b101''')) hF h1 h2 h3 h4)
def f31_i403_14b (r14 : Int → (List Choice) → Option (Layout × Int)) (a0 : Int) (a1 : Int) (a2 : List Kind) (N : Nat) (v8 : Int) (v9 : Int) (k4 : (List Choice) → Option (Layout × Int)) (v14 : Int) (b101''' : List Choice) : Option (Layout × Int) :=
 bif decide (v14 < v8) then ((chkI 13 v14).bind fun _ =>
 (chkI 13 v9).bind fun _ =>
 (ixN (b101''') (Int.toNat v14 * 13 + Int.toNat v9)).bind fun x9 =>
 (chkI 13 (W (v8 - v14))).bind fun _ =>
 (chkI 13 v9).bind fun _ =>
 (ixN (b101''') (Int.toNat (W (v8 - v14)) * 13 + Int.toNat v9)).bind fun x10 =>
 (ixN (b101''') (Int.toNat v8 * 13 + Int.toNat v9)).bind fun x11 =>
 (f75 N (Choice.mk (W (x9.worth + x10.worth)) (W (x9.labels + x10.labels)) false (Cut.mk true v14)) x11).bind fun x12 =>
 bif x12 then ((setN (b101''') (Int.toNat v8 * 13 + Int.toNat v9) (Choice.mk (W (x9.worth + x10.worth)) (W (x9.labels + x10.labels)) false (Cut.mk true v14))).bind fun x13 =>
 r14 (W (v14 + (1 : Int))) x13)
 else (r14 (W (v14 + (1 : Int))) (b101''')))
 else (k4 (b101'''))
def f31_i403_14 (a0 : Int) (a1 : Int) (a2 : List Kind) (N : Nat) (v8 : Int) (v9 : Int) (k4 : (List Choice) → Option (Layout × Int)) : Nat → Int → (List Choice) → Option (Layout × Int)
  | 0, _, _ => none
  | n + 1, v14, b101''' => f31_i403_14b (f31_i403_14 a0 a1 a2 N v8 v9 k4 n) a0 a1 a2 N v8 v9 k4 v14 b101'''
def Sf31_i403_14 : Ann := ⟨[0, 1, 2, 7, 8, 9, 13, 14], [0, 404000101, 404000806], [], []⟩
def Vf31_i403_14 (a0 : Int) (a1 : Int) (a2 : List Kind) (v8 : Int) (v9 : Int) (v14 : Int) (b101''' : List Choice) : List SV := [.dat (iN a0), .dat (iN a1), .dat (sl_Kind a2), .ptr 404000101 0, .dat (iN v8), .dat (iN v9), .fn 74 [] [.ptr 404000806 0], .dat (iN v14)]
def Bf31_i403_14 (a0 : Int) (a1 : Int) (a2 : List Kind) (v8 : Int) (v9 : Int) (v14 : Int) (b101''' : List Choice) : List Blk := [.box [.dat (iN (0 : Int)), .dat (iN (0 : Int)), .nil], .arr (flatC Choice.d (b101''')), .box [.ptr 404000101 (0 + Int.toNat v8 * 65 + Int.toNat v9 * 5)]]
theorem Lf31_i403_14 {c : Ctx} {p nid : Nat} {a : Code} {K : Ex → St → Prop} {r : Layout × Int} {a0 : Int} {a1 : Int} {a2 : List Kind} {N : Nat} {v8 : Int} {v9 : Int} {k4 : (List Choice) → Option (Layout × Int)} {fu : Nat} {v14 : Int} {b101''' : List Choice} {st st' : St} (hz : Sf31_i403_14.ok p = true) (h1 : st.norm Sf31_i403_14 = some st') (h2 : st'.cutOk Sf31_i403_14.keep Sf31_i403_14.bs (memB Sf31_i403_14.bs) = true) (h3 : vals Sf31_i403_14.keep st'.e = Vf31_i403_14 a0 a1 a2 v8 v9 v14 b101''') (h4 : blks Sf31_i403_14.bs st'.m = Bf31_i403_14 a0 a1 a2 v8 v9 v14 b101''')
    (h : ∀ (n : Nat) (v14 : Int) (b101''' : List Choice), f31_i403_14b (f31_i403_14 a0 a1 a2 N v8 v9 k4 n) a0 a1 a2 N v8 v9 k4 v14 b101''' = some r → vc c p nid a (St.mk' Sf31_i403_14 (Vf31_i403_14 a0 a1 a2 v8 v9 v14 b101''') (Bf31_i403_14 a0 a1 a2 v8 v9 v14 b101''')) (Kloop Sf31_i403_14 (fun y : Nat × Int × (List Choice) => Vf31_i403_14 a0 a1 a2 v8 v9 y.2.1 y.2.2) (fun y : Nat × Int × (List Choice) => Bf31_i403_14 a0 a1 a2 v8 v9 y.2.1 y.2.2) (fun y : Nat × Int × (List Choice) => f31_i403_14 a0 a1 a2 N v8 v9 k4 y.1 y.2.1 y.2.2 = some r) (fun y : Nat × Int × (List Choice) => y.1) (n + 1, v14, b101''') K)) (hF : f31_i403_14 a0 a1 a2 N v8 v9 k4 fu v14 b101''' = some r) : vc c p nid (.loop a) st K := by
  refine vc_loop Sf31_i403_14 (fun y : Nat × Int × (List Choice) => Vf31_i403_14 a0 a1 a2 v8 v9 y.2.1 y.2.2) (fun y : Nat × Int × (List Choice) => Bf31_i403_14 a0 a1 a2 v8 v9 y.2.1 y.2.2) (fun y : Nat × Int × (List Choice) => f31_i403_14 a0 a1 a2 N v8 v9 k4 y.1 y.2.1 y.2.2 = some r) (fun y : Nat × Int × (List Choice) => y.1) hz (head_in (x := (fu, v14, b101''')) hF h1 h2 h3 h4) ?_
  rintro ⟨_ | n, v14, b101'''⟩ hI
  · cases hI
  · exact h n v14 b101''' hI
theorem Mf31_i403_14 {K : Ex → St → Prop} {r : Layout × Int} {a0 : Int} {a1 : Int} {a2 : List Kind} {N : Nat} {v8 : Int} {v9 : Int} {k4 : (List Choice) → Option (Layout × Int)} {n : Nat} {v14 : Int} {b101''' : List Choice} {v14_ : Int} {b101'''_ : List Choice} {st st' : St} (hF : f31_i403_14 a0 a1 a2 N v8 v9 k4 n v14 b101''' = some r) (h1 : st.norm Sf31_i403_14 = some st') (h2 : st'.cutOk Sf31_i403_14.keep Sf31_i403_14.bs (memB Sf31_i403_14.bs) = true) (h3 : vals Sf31_i403_14.keep st'.e = Vf31_i403_14 a0 a1 a2 v8 v9 v14 b101''') (h4 : blks Sf31_i403_14.bs st'.m = Bf31_i403_14 a0 a1 a2 v8 v9 v14 b101''') :
    Kloop Sf31_i403_14 (fun y : Nat × Int × (List Choice) => Vf31_i403_14 a0 a1 a2 v8 v9 y.2.1 y.2.2) (fun y : Nat × Int × (List Choice) => Bf31_i403_14 a0 a1 a2 v8 v9 y.2.1 y.2.2) (fun y : Nat × Int × (List Choice) => f31_i403_14 a0 a1 a2 N v8 v9 k4 y.1 y.2.1 y.2.2 = some r) (fun y : Nat × Int × (List Choice) => y.1) (n + 1, v14_, b101'''_) K .normal st := by
  exact head_back (y := (n, v14, b101''')) hF (Nat.lt_succ_self n) h1 h2 h3 h4
def f31_i403_c12 (a0 : Int) (a1 : Int) (a2 : List Kind) (N : Nat) (v8 : Int) (v9 : Int) (k3 : (List Choice) → Option (Layout × Int)) (b101'' : List Choice) : Option (Layout × Int) :=
 joinK (f31_i403_c17 a0 a1 a2 N v8 v9 k3) fun k4 =>
 f31_i403_14 a0 a1 a2 N v8 v9 k4 N (1 : Int) (b101'')
def Sf31_i403_c12 : Ann := ⟨[0, 1, 2, 7, 8, 9, 10], [0, 404000101, 404000806], [], []⟩
def Vf31_i403_c12 (a0 : Int) (a1 : Int) (a2 : List Kind) (v8 : Int) (v9 : Int) (b101'' : List Choice) : List SV := [.dat (iN a0), .dat (iN a1), .dat (sl_Kind a2), .ptr 404000101 0, .dat (iN v8), .dat (iN v9), .ptr 404000806 0]
def Bf31_i403_c12 (a0 : Int) (a1 : Int) (a2 : List Kind) (v8 : Int) (v9 : Int) (b101'' : List Choice) : List Blk := [.box [.dat (iN (0 : Int)), .dat (iN (0 : Int)), .nil], .arr (flatC Choice.d (b101'')), .box [.ptr 404000101 (0 + Int.toNat v8 * 65 + Int.toNat v9 * 5)]]
theorem Cf31_i403_c12 {c : Ctx} {p nid : Nat} {a b : Code} {st : St} {K : Ex → St → Prop} {r : Layout × Int} {a0 : Int} {a1 : Int} {a2 : List Kind} {N : Nat} {v8 : Int} {v9 : Int} {k3 : (List Choice) → Option (Layout × Int)} {g : _ → Option (Layout × Int)} (hn : Nat.beq (nid * 1000 + firstRegion b) 404000000012 = true) (hz : Sf31_i403_c12.ok p = true)
    (h : g (f31_i403_c12 a0 a1 a2 N v8 v9 k3) = some r → vc c p nid a st (Kseq (fun st' => st'.head Sf31_i403_c12 fun v bl => ∃ x, (fun y : (List Choice) => f31_i403_c12 a0 a1 a2 N v8 v9 k3 y = some r) x ∧ v = (fun y : (List Choice) => Vf31_i403_c12 a0 a1 a2 v8 v9 y) x ∧ bl = (fun y : (List Choice) => Bf31_i403_c12 a0 a1 a2 v8 v9 y) x) K))
    (h2 : ∀ (b101'' : List Choice), f31_i403_c12 a0 a1 a2 N v8 v9 k3 b101'' = some r → vc c p nid b (St.mk' Sf31_i403_c12 (Vf31_i403_c12 a0 a1 a2 v8 v9 b101'') (Bf31_i403_c12 a0 a1 a2 v8 v9 b101'')) K) (hF : joinK (f31_i403_c12 a0 a1 a2 N v8 v9 k3) g = some r) : vc c p nid (.seq a b) st K :=
  vc_cut Sf31_i403_c12 (fun y : (List Choice) => Vf31_i403_c12 a0 a1 a2 v8 v9 y) (fun y : (List Choice) => Bf31_i403_c12 a0 a1 a2 v8 v9 y) (fun y : (List Choice) => f31_i403_c12 a0 a1 a2 N v8 v9 k3 y = some r) hz (h hF) fun y hy => h2 y hy
theorem Zf31_i403_c12 {K : Ex → St → Prop} {r : Layout × Int} {a0 : Int} {a1 : Int} {a2 : List Kind} {N : Nat} {v8 : Int} {v9 : Int} {k3 : (List Choice) → Option (Layout × Int)} {b101'' : List Choice} {st st' : St} (hF : f31_i403_c12 a0 a1 a2 N v8 v9 k3 b101'' = some r) (h1 : st.norm Sf31_i403_c12 = some st') (h2 : st'.cutOk Sf31_i403_c12.keep Sf31_i403_c12.bs (memB Sf31_i403_c12.bs) = true) (h3 : vals Sf31_i403_c12.keep st'.e = Vf31_i403_c12 a0 a1 a2 v8 v9 b101'') (h4 : blks Sf31_i403_c12.bs st'.m = Bf31_i403_c12 a0 a1 a2 v8 v9 b101'') :
    Kseq (fun st' => st'.head Sf31_i403_c12 fun v bl => ∃ x, (fun y : (List Choice) => f31_i403_c12 a0 a1 a2 N v8 v9 k3 y = some r) x ∧ v = (fun y : (List Choice) => Vf31_i403_c12 a0 a1 a2 v8 v9 y) x ∧ bl = (fun y : (List Choice) => Bf31_i403_c12 a0 a1 a2 v8 v9 y) x) K .normal st := by
  exact k_seq (head_in (I := (fun y : (List Choice) => f31_i403_c12 a0 a1 a2 N v8 v9 k3 y = some r)) (x := (b101'')) hF h1 h2 h3 h4)
def f31_i403_6b (r6 : Int → (List Choice) → Option (Layout × Int)) (a0 : Int) (a1 : Int) (a2 : List Kind) (N : Nat) (v8 : Int) (k2 : (List Choice) → Option (Layout × Int)) (v9 : Int) (b101' : List Choice) : Option (Layout × Int) :=
 bif decide (v9 ≤ a1) then (joinK (f31_i403_c7 a0 a1 a2 v8 v9 r6) fun k3 =>
 (chkI 13 v8).bind fun _ =>
 (chkI 13 v9).bind fun _ =>
 joinK (f31_i403_c12 a0 a1 a2 N v8 v9 k3) fun k5 =>
 (f49 N v8 v9 a2).bind fun x14 =>
 bif decide ((0 : Int) < x14.1) then ((setN (b101') (Int.toNat v8 * 13 + Int.toNat v9) (Choice.mk x14.1 (1 : Int) true (Cut.mk false (0 : Int)))).bind fun x15 =>
 k5 x15)
 else (k5 (b101')))
 else (k2 (b101'))
def f31_i403_6 (a0 : Int) (a1 : Int) (a2 : List Kind) (N : Nat) (v8 : Int) (k2 : (List Choice) → Option (Layout × Int)) : Nat → Int → (List Choice) → Option (Layout × Int)
  | 0, _, _ => none
  | n + 1, v9, b101' => f31_i403_6b (f31_i403_6 a0 a1 a2 N v8 k2 n) a0 a1 a2 N v8 k2 v9 b101'
def Sf31_i403_6 : Ann := ⟨[0, 1, 2, 7, 8, 9], [0, 404000101], [], []⟩
def Vf31_i403_6 (a0 : Int) (a1 : Int) (a2 : List Kind) (v8 : Int) (v9 : Int) (b101' : List Choice) : List SV := [.dat (iN a0), .dat (iN a1), .dat (sl_Kind a2), .ptr 404000101 0, .dat (iN v8), .dat (iN v9)]
def Bf31_i403_6 (a0 : Int) (a1 : Int) (a2 : List Kind) (v8 : Int) (v9 : Int) (b101' : List Choice) : List Blk := [.box [.dat (iN (0 : Int)), .dat (iN (0 : Int)), .nil], .arr (flatC Choice.d (b101'))]
theorem Lf31_i403_6 {c : Ctx} {p nid : Nat} {a : Code} {K : Ex → St → Prop} {r : Layout × Int} {a0 : Int} {a1 : Int} {a2 : List Kind} {N : Nat} {v8 : Int} {k2 : (List Choice) → Option (Layout × Int)} {fu : Nat} {v9 : Int} {b101' : List Choice} {st st' : St} (hz : Sf31_i403_6.ok p = true) (h1 : st.norm Sf31_i403_6 = some st') (h2 : st'.cutOk Sf31_i403_6.keep Sf31_i403_6.bs (memB Sf31_i403_6.bs) = true) (h3 : vals Sf31_i403_6.keep st'.e = Vf31_i403_6 a0 a1 a2 v8 v9 b101') (h4 : blks Sf31_i403_6.bs st'.m = Bf31_i403_6 a0 a1 a2 v8 v9 b101')
    (h : ∀ (n : Nat) (v9 : Int) (b101' : List Choice), f31_i403_6b (f31_i403_6 a0 a1 a2 N v8 k2 n) a0 a1 a2 N v8 k2 v9 b101' = some r → vc c p nid a (St.mk' Sf31_i403_6 (Vf31_i403_6 a0 a1 a2 v8 v9 b101') (Bf31_i403_6 a0 a1 a2 v8 v9 b101')) (Kloop Sf31_i403_6 (fun y : Nat × Int × (List Choice) => Vf31_i403_6 a0 a1 a2 v8 y.2.1 y.2.2) (fun y : Nat × Int × (List Choice) => Bf31_i403_6 a0 a1 a2 v8 y.2.1 y.2.2) (fun y : Nat × Int × (List Choice) => f31_i403_6 a0 a1 a2 N v8 k2 y.1 y.2.1 y.2.2 = some r) (fun y : Nat × Int × (List Choice) => y.1) (n + 1, v9, b101') K)) (hF : f31_i403_6 a0 a1 a2 N v8 k2 fu v9 b101' = some r) : vc c p nid (.loop a) st K := by
  refine vc_loop Sf31_i403_6 (fun y : Nat × Int × (List Choice) => Vf31_i403_6 a0 a1 a2 v8 y.2.1 y.2.2) (fun y : Nat × Int × (List Choice) => Bf31_i403_6 a0 a1 a2 v8 y.2.1 y.2.2) (fun y : Nat × Int × (List Choice) => f31_i403_6 a0 a1 a2 N v8 k2 y.1 y.2.1 y.2.2 = some r) (fun y : Nat × Int × (List Choice) => y.1) hz (head_in (x := (fu, v9, b101')) hF h1 h2 h3 h4) ?_
  rintro ⟨_ | n, v9, b101'⟩ hI
  · cases hI
  · exact h n v9 b101' hI
theorem Mf31_i403_6 {K : Ex → St → Prop} {r : Layout × Int} {a0 : Int} {a1 : Int} {a2 : List Kind} {N : Nat} {v8 : Int} {k2 : (List Choice) → Option (Layout × Int)} {n : Nat} {v9 : Int} {b101' : List Choice} {v9_ : Int} {b101'_ : List Choice} {st st' : St} (hF : f31_i403_6 a0 a1 a2 N v8 k2 n v9 b101' = some r) (h1 : st.norm Sf31_i403_6 = some st') (h2 : st'.cutOk Sf31_i403_6.keep Sf31_i403_6.bs (memB Sf31_i403_6.bs) = true) (h3 : vals Sf31_i403_6.keep st'.e = Vf31_i403_6 a0 a1 a2 v8 v9 b101') (h4 : blks Sf31_i403_6.bs st'.m = Bf31_i403_6 a0 a1 a2 v8 v9 b101') :
    Kloop Sf31_i403_6 (fun y : Nat × Int × (List Choice) => Vf31_i403_6 a0 a1 a2 v8 y.2.1 y.2.2) (fun y : Nat × Int × (List Choice) => Bf31_i403_6 a0 a1 a2 v8 y.2.1 y.2.2) (fun y : Nat × Int × (List Choice) => f31_i403_6 a0 a1 a2 N v8 k2 y.1 y.2.1 y.2.2 = some r) (fun y : Nat × Int × (List Choice) => y.1) (n + 1, v9_, b101'_) K .normal st := by
  exact head_back (y := (n, v9, b101')) hF (Nat.lt_succ_self n) h1 h2 h3 h4
def f31_i403_3b (r3 : Int → (List Choice) → Option (Layout × Int)) (a0 : Int) (a1 : Int) (a2 : List Kind) (N : Nat) (k1 : (List Choice) → Option (Layout × Int)) (v8 : Int) (b101 : List Choice) : Option (Layout × Int) :=
 bif decide (v8 ≤ a0) then (joinK (f31_i403_c4 a0 a1 a2 v8 r3) fun k2 =>
 f31_i403_6 a0 a1 a2 N v8 k2 N (1 : Int) b101)
 else (k1 b101)
def f31_i403_3 (a0 : Int) (a1 : Int) (a2 : List Kind) (N : Nat) (k1 : (List Choice) → Option (Layout × Int)) : Nat → Int → (List Choice) → Option (Layout × Int)
  | 0, _, _ => none
  | n + 1, v8, b101 => f31_i403_3b (f31_i403_3 a0 a1 a2 N k1 n) a0 a1 a2 N k1 v8 b101
def Sf31_i403_3 : Ann := ⟨[0, 1, 2, 7, 8], [0, 404000101], [], []⟩
def Vf31_i403_3 (a0 : Int) (a1 : Int) (a2 : List Kind) (v8 : Int) (b101 : List Choice) : List SV := [.dat (iN a0), .dat (iN a1), .dat (sl_Kind a2), .ptr 404000101 0, .dat (iN v8)]
def Bf31_i403_3 (a0 : Int) (a1 : Int) (a2 : List Kind) (v8 : Int) (b101 : List Choice) : List Blk := [.box [.dat (iN (0 : Int)), .dat (iN (0 : Int)), .nil], .arr (flatC Choice.d b101)]
theorem Lf31_i403_3 {c : Ctx} {p nid : Nat} {a : Code} {K : Ex → St → Prop} {r : Layout × Int} {a0 : Int} {a1 : Int} {a2 : List Kind} {N : Nat} {k1 : (List Choice) → Option (Layout × Int)} {fu : Nat} {v8 : Int} {b101 : List Choice} {st st' : St} (hz : Sf31_i403_3.ok p = true) (h1 : st.norm Sf31_i403_3 = some st') (h2 : st'.cutOk Sf31_i403_3.keep Sf31_i403_3.bs (memB Sf31_i403_3.bs) = true) (h3 : vals Sf31_i403_3.keep st'.e = Vf31_i403_3 a0 a1 a2 v8 b101) (h4 : blks Sf31_i403_3.bs st'.m = Bf31_i403_3 a0 a1 a2 v8 b101)
    (h : ∀ (n : Nat) (v8 : Int) (b101 : List Choice), f31_i403_3b (f31_i403_3 a0 a1 a2 N k1 n) a0 a1 a2 N k1 v8 b101 = some r → vc c p nid a (St.mk' Sf31_i403_3 (Vf31_i403_3 a0 a1 a2 v8 b101) (Bf31_i403_3 a0 a1 a2 v8 b101)) (Kloop Sf31_i403_3 (fun y : Nat × Int × (List Choice) => Vf31_i403_3 a0 a1 a2 y.2.1 y.2.2) (fun y : Nat × Int × (List Choice) => Bf31_i403_3 a0 a1 a2 y.2.1 y.2.2) (fun y : Nat × Int × (List Choice) => f31_i403_3 a0 a1 a2 N k1 y.1 y.2.1 y.2.2 = some r) (fun y : Nat × Int × (List Choice) => y.1) (n + 1, v8, b101) K)) (hF : f31_i403_3 a0 a1 a2 N k1 fu v8 b101 = some r) : vc c p nid (.loop a) st K := by
  refine vc_loop Sf31_i403_3 (fun y : Nat × Int × (List Choice) => Vf31_i403_3 a0 a1 a2 y.2.1 y.2.2) (fun y : Nat × Int × (List Choice) => Bf31_i403_3 a0 a1 a2 y.2.1 y.2.2) (fun y : Nat × Int × (List Choice) => f31_i403_3 a0 a1 a2 N k1 y.1 y.2.1 y.2.2 = some r) (fun y : Nat × Int × (List Choice) => y.1) hz (head_in (x := (fu, v8, b101)) hF h1 h2 h3 h4) ?_
  rintro ⟨_ | n, v8, b101⟩ hI
  · cases hI
  · exact h n v8 b101 hI
theorem Mf31_i403_3 {K : Ex → St → Prop} {r : Layout × Int} {a0 : Int} {a1 : Int} {a2 : List Kind} {N : Nat} {k1 : (List Choice) → Option (Layout × Int)} {n : Nat} {v8 : Int} {b101 : List Choice} {v8_ : Int} {b101_ : List Choice} {st st' : St} (hF : f31_i403_3 a0 a1 a2 N k1 n v8 b101 = some r) (h1 : st.norm Sf31_i403_3 = some st') (h2 : st'.cutOk Sf31_i403_3.keep Sf31_i403_3.bs (memB Sf31_i403_3.bs) = true) (h3 : vals Sf31_i403_3.keep st'.e = Vf31_i403_3 a0 a1 a2 v8 b101) (h4 : blks Sf31_i403_3.bs st'.m = Bf31_i403_3 a0 a1 a2 v8 b101) :
    Kloop Sf31_i403_3 (fun y : Nat × Int × (List Choice) => Vf31_i403_3 a0 a1 a2 y.2.1 y.2.2) (fun y : Nat × Int × (List Choice) => Bf31_i403_3 a0 a1 a2 y.2.1 y.2.2) (fun y : Nat × Int × (List Choice) => f31_i403_3 a0 a1 a2 N k1 y.1 y.2.1 y.2.2 = some r) (fun y : Nat × Int × (List Choice) => y.1) (n + 1, v8_, b101_) K .normal st := by
  exact head_back (y := (n, v8, b101)) hF (Nat.lt_succ_self n) h1 h2 h3 h4
def f31 (N : Nat) (a0 : Int) (a1 : Int) (a2 : List Kind) : Option (Layout × Int) :=
 (f66 N a0 a1 a2).bind fun x1 =>
 bif decide (¬ x1 = (0 : Int)) then (some ((Layout.mk (0 : Int) (0 : Int) []), x1))
 else (joinK (f31_i403_c21 a0 a1 N) fun k1 =>
 f31_i403_3 a0 a1 a2 N k1 N (1 : Int) (List.replicate 169 (Choice.mk (0 : Int) (0 : Int) false (Cut.mk false (0 : Int)))))
def G31 (ds : List D) (d : D) : Prop := ∃ (N : Nat) (a0 : Int) (a1 : Int) (a2 : List Kind) (r : Layout × Int), ds = [iN a0, iN a1, sl_Kind a2] ∧ f31 N a0 a1 a2 = some r ∧ d = .tup [Layout.d r.1, iN r.2]
theorem G31.step {N : Nat} {a0 : Int} {a1 : Int} {a2 : List Kind} {ρ : Type} {A : (Layout × Int) → Option ρ} {q : ρ} {ds : List D} {K : D → Prop} (hd : ds = [iN a0, iN a1, sl_Kind a2]) (h : ∀ r, A r = some q → K (.tup [Layout.d r.1, iN r.2])) (hF : (f31 N a0 a1 a2).bind A = some q) : ∃ d, G31 ds d ∧ K d := by
  obtain ⟨r, hr, hA⟩ := bind_some hF
  exact ⟨_, ⟨N, a0, a1, a2, r, hd, hr, rfl⟩, h r hA⟩
set_option maxRecDepth 20000 in
set_option maxHeartbeats 4000000 in
theorem P31 : PureOK Try.prog 31 G31 := by
  refine pure_of_vc (c := mkCtx tyTree [(67, false, inlPg (mkCtx tyTree [(74, false, inlPg (mkCtx tyTree [(75, true, purePg [[0, 0, 0, 0, 0], [0, 0, 0, 0, 0]] G75)]) Try.f74), (49, true, purePg [[0], [0], [3]] G49)]) Try.f67), (68, false, effPg Spf68 G68), (66, true, purePg [[0], [0], [3]] G66)]) rfl tyOK (ctx_eff (callable Try.func67 rfl rfl) (CallOK.inl rfl tyOK (ctx_eff (callable Try.func74 rfl rfl) (CallOK.inl rfl tyOK (ctx_cons (callable Try.func75 rfl rfl) P75 (ctx_nil)) Try.func74 (by kernel_rfl)) (ctx_cons (callable Try.func49 rfl rfl) P49 (ctx_nil))) Try.func67 (by kernel_rfl)) (ctx_eff (callable Try.func68 rfl rfl) P68 (ctx_cons (callable Try.func66 rfl rfl) P66 (ctx_nil)))) [[0, 0, 4], [0]] 3 Try.func31 rfl rfl (by decide) (by kernel_rfl) ?_
  rintro ds d ⟨N, a0, a1, a2, r, rfl, hF, rfl⟩ hok
  clear hok
  refine ⟨rfl, ?_⟩
  show vc _ _ _ _ ⟨[(0, .dat (iN a0)), (1, .dat (iN a1)), (2, .dat (sl_Kind a2))], []⟩ _
  unfold f31 at hF
  repeat' (first
    | ((with_reducible refine q0 _ _ ?_); clear Q q0 q1 q2)
    | ((with_reducible refine q1 _ _ _ _ ?_); clear Q q0 q1 q2)
    | ((with_reducible refine q2 _ _ _ ?_); clear Q q0 q1 q2)
    | ((with_reducible refine seq_op ?hx (fun Q q0 q1 q2 => ?_)); (case hx => exact rfl); conv => whnf)
    | ((with_reducible refine draw_op ?hx (fun Q q0 q1 q2 => ?_)); (case hx => exact rfl); conv => whnf)
    | ((with_reducible refine seq_op0 ?hx (fun Q q0 q1 q2 => ?_)); (case hx => exact rfl); conv => whnf)
    | ((with_reducible refine draw_op0 ?hx (fun Q q0 q1 q2 => ?_)); (case hx => exact rfl); conv => whnf)
    | ((with_reducible refine seq_off ?hx ?_); (case hx => exact rfl))
    | ((with_reducible refine seq_off0 ?hx ?_); (case hx => exact rfl))
    | ((with_reducible refine draw_off ?hx ?_); (case hx => exact rfl))
    | ((with_reducible refine draw_off0 ?hx ?_); (case hx => exact rfl))
    | ((with_reducible refine seq_id ?_); (first | ((refine seq_opK rfl ?hy (fun Q q0 q1 q2 => ?_)); (case hy => first | assumption | exact notT (by assumption) | exact rfl); conv => whnf) | ((refine seq_offK rfl ?hy ?_); (case hy => first | assumption | exact notF (by assumption) | exact rfl)) | ((refine seq_opK0 rfl ?hy (fun Q q0 q1 q2 => ?_)); (case hy => first | assumption | exact notT (by assumption) | exact rfl); conv => whnf) | ((refine seq_offK0 rfl ?hy ?_); (case hy => first | assumption | exact notF (by assumption) | exact rfl)) | (revert hF; (with_reducible refine seq_opF ?hx ?_ ?_); (case hx => exact rfl); (intro hc hF Q q0 q1 q2; conv => whnf); rotate_left; (intro hc hF); rotate_right) | (revert hF; (with_reducible refine seq_opN ?hx ?_ ?_); (case hx => exact rfl); (intro hc hF); rotate_left; (intro hc hF Q q0 q1 q2; conv => whnf); rotate_right) | (revert hF; (with_reducible refine seq_opF0 ?hx ?_ ?_); (case hx => exact rfl); (intro hc hF Q q0 q1 q2; conv => whnf); rotate_left; (intro hc hF); rotate_right) | (revert hF; (with_reducible refine seq_opN0 ?hx ?_ ?_); (case hx => exact rfl); (intro hc hF); rotate_left; (intro hc hF Q q0 q1 q2; conv => whnf); rotate_right)))
    | ((with_reducible refine draw_id ?_); (first | ((refine draw_opK rfl ?hy (fun Q q0 q1 q2 => ?_)); (case hy => first | assumption | exact notT (by assumption) | exact rfl); conv => whnf) | ((refine draw_offK rfl ?hy ?_); (case hy => first | assumption | exact notF (by assumption) | exact rfl)) | ((refine draw_opK0 rfl ?hy (fun Q q0 q1 q2 => ?_)); (case hy => first | assumption | exact notT (by assumption) | exact rfl); conv => whnf) | ((refine draw_offK0 rfl ?hy ?_); (case hy => first | assumption | exact notF (by assumption) | exact rfl)) | (revert hF; (with_reducible refine draw_opF ?hx ?_ ?_); (case hx => exact rfl); (intro hc hF Q q0 q1 q2; conv => whnf); rotate_left; (intro hc hF); rotate_right) | (revert hF; (with_reducible refine draw_opN ?hx ?_ ?_); (case hx => exact rfl); (intro hc hF); rotate_left; (intro hc hF Q q0 q1 q2; conv => whnf); rotate_right) | (revert hF; (with_reducible refine draw_opF0 ?hx ?_ ?_); (case hx => exact rfl); (intro hc hF Q q0 q1 q2; conv => whnf); rotate_left; (intro hc hF); rotate_right) | (revert hF; (with_reducible refine draw_opN0 ?hx ?_ ?_); (case hx => exact rfl); (intro hc hF); rotate_left; (intro hc hF Q q0 q1 q2; conv => whnf); rotate_right)))
    | ((with_reducible refine cond_id ?_); (first | ((refine condKT rfl ?hy ?_); (case hy => first | assumption | exact notT (by assumption) | exact rfl)) | ((refine condKF rfl ?hy ?_); (case hy => first | assumption | exact notF (by assumption) | exact rfl)) | (revert hF; (with_reducible refine condF ?hx ?_ ?_); (case hx => exact rfl); all_goals (intro hc hF))))
    | ((with_reducible refine seq_nil ?_); (first | ((with_reducible refine hR _ ?_); clear R hR) | ((with_reducible refine hL _ ?_); clear L hL)))
    | ((with_reducible refine draw_nil ?_); (with_reducible refine hR _ _ ?hx ?_); (case hx => kernel_rfl); (first | clear R hR | clear hR))
    | ((with_reducible refine int_step ?_); conv => whnf)
    | ((with_reducible refine len_step ?_); conv => whnf)
    | ((with_reducible refine idx2 (by assumption) ?_); conv => whnf)
    | ((with_reducible refine idx3 (by assumption) ?_); conv => whnf)
    | with_reducible refine vc_block ?_
    | with_reducible refine vc_skip ?_
    | with_reducible refine vc_ret ?_
    | with_reducible refine vc_exit ?_
    | ((with_reducible refine vc_seqN [10, 404000000021, 404000000004, 404000000007, 404000000017, 404000000012] ?hx ?_); (case hx => exact rfl))
    | (with_reducible refine vc_region (fun R hR => ?_))
    | ((with_reducible refine vc_draw ?hx (fun R hR => ?_)); (case hx => exact rfl))
    | ((with_reducible refine vc_tail (n := 4) ?hx ?hn rfl rfl (fun R L hL hR => ?_)); (case hx => kernel_rfl); (case hn => exact rfl); simp only [List.take_succ_cons, List.take_zero, List.drop_succ_cons, List.drop_zero] at hR ⊢)
    | ((with_reducible refine vc_tail (n := 19) ?hx ?hn rfl rfl (fun R L hL hR => ?_)); (case hx => kernel_rfl); (case hn => exact rfl); simp only [List.take_succ_cons, List.take_zero, List.drop_succ_cons, List.drop_zero] at hR ⊢)
    | (revert hF; (refine Cf31_c10 rfl rfl ?_ ?_); (intro hF); rotate_left; (intro b703_2 hF; unfold f31_c10 at hF); rotate_right)
    | exact Zf31_c10 hF rfl rfl rfl rfl (by first | exact rfl | assumption | omega)
    | (revert hF; (refine Cf31_i403_c21 rfl rfl ?_ ?_); (intro hF); rotate_left; (intro b101 hF; unfold f31_i403_c21 at hF); rotate_right)
    | exact Zf31_i403_c21 hF rfl rfl rfl rfl
    | (revert hF; (refine Cf31_i403_c4 rfl rfl ?_ ?_); (intro hF); rotate_left; (intro b101' hF; unfold f31_i403_c4 at hF); rotate_right)
    | exact Zf31_i403_c4 hF rfl rfl rfl rfl
    | (revert hF; (refine Cf31_i403_c7 rfl rfl ?_ ?_); (intro hF); rotate_left; (intro b101'' hF; unfold f31_i403_c7 at hF); rotate_right)
    | exact Zf31_i403_c7 hF rfl rfl rfl rfl
    | (revert hF; (refine Lf31_i403_18 rfl rfl rfl rfl rfl ?_); intro n v15 b101'''' hF; unfold f31_i403_18b at hF)
    | exact Mf31_i403_18 hF rfl rfl rfl rfl
    | (revert hF; (refine Cf31_i403_c17 rfl rfl ?_ ?_); (intro hF); rotate_left; (intro b101''' hF; unfold f31_i403_c17 at hF); rotate_right)
    | exact Zf31_i403_c17 hF rfl rfl rfl rfl
    | (revert hF; (refine Lf31_i403_14 rfl rfl rfl rfl rfl ?_); intro n v14 b101''' hF; unfold f31_i403_14b at hF)
    | exact Mf31_i403_14 hF rfl rfl rfl rfl
    | (revert hF; (refine Cf31_i403_c12 rfl rfl ?_ ?_); (intro hF); rotate_left; (intro b101'' hF; unfold f31_i403_c12 at hF); rotate_right)
    | exact Zf31_i403_c12 hF rfl rfl rfl rfl
    | (revert hF; (refine Lf31_i403_6 rfl rfl rfl rfl rfl ?_); intro n v9 b101' hF; unfold f31_i403_6b at hF)
    | exact Mf31_i403_6 hF rfl rfl rfl rfl
    | (revert hF; (refine Lf31_i403_3 rfl rfl rfl rfl rfl ?_); intro n v8 b101 hF; unfold f31_i403_3b at hF)
    | exact Mf31_i403_3 hF rfl rfl rfl rfl
    | (revert hF; (with_reducible refine G49.step ?hx ?_); (case hx => exact rfl); intro v hF; conv => whnf)
    | (revert hF; (with_reducible refine G66.step ?hx ?_); (case hx => exact rfl); intro v hF; conv => whnf)
    | (revert hF; (with_reducible refine G75.step ?hx ?_); (case hx => exact rfl); intro v hF; conv => whnf)
    | (revert hF; (refine G68.step rfl rfl rfl rfl rfl rfl rfl ?hn ?_); (case hn => exact rfl); intro v hF; conv => whnf)
    | ((with_reducible refine zeroA_step (flatC Choice.d (List.replicate 169 (Choice.mk (0 : Int) (0 : Int) false (Cut.mk false (0 : Int))))) ?hx ?_); (case hx => exact ⟨by kernel_rfl, by kernel_rfl⟩); conv => whnf)
    | ((with_reducible refine zeroD_step (flatC Choice.d (List.replicate 169 (Choice.mk (0 : Int) (0 : Int) false (Cut.mk false (0 : Int))))) ?hx ?_); (case hx => (unfold zeroD; kernel_rfl)); conv => whnf)
    | ((with_reducible refine chkI_go hF ?_); (clear hF; intro hF; conv => whnf))
    | ((with_reducible have hG := ixN_fact hF); clear hF; (first | (refine ixN_one hG (by (try simp only [W]); omega) (fun x hF => ?_)) | (refine ixN_agg hG (fun _ => rfl) (by (try simp only [W]); omega) (fun x hF => ?_)) | (refine ixN_field (s := 5) (f := 1) (fun x => iN x.labels) hG (fun _ => rfl) (fun _ => rfl) (by (try simp only [W]); omega) (fun x hF => ?_))); clear hG; conv => whnf)
    | ((with_reducible have hG := setN_fact hF); clear hF; (first | (refine setN_one hG (by (try simp only [W]); omega) rfl rfl (fun q hF => ?_)) | (refine setN_agg hG (fun _ => rfl) (by (try simp only [W]); omega) rfl rfl (fun q hF => ?_))); clear hG; conv => whnf)
    | with_reducible refine k_seq_ret ?_
    | with_reducible refine k_seq_exit ?_
    | with_reducible refine k_blk ?_
    | with_reducible refine k_blk_ret ?_
    | with_reducible refine k_blk_here ?_
    | ((with_reducible refine k_blk_out ?hx ?_); (case hx => exact rfl))
    | with_reducible refine k_loop_ret ?_
    | with_reducible refine k_loop_exit ?_
    | (revert hF; (with_reducible refine idx1 ?hn ?_); (case hn => first | exact rfl | exact (List.length_map _) | assumption | omega | simp); intro x hx hF; conv => whnf)
    | ((with_reducible have hG := sub_fact hF); clear hF; (first | (refine sub_step hG (fun q hF => ?_)) | (refine subrow_step hG ?hn (fun q hF => ?_); (case hn => first | exact rfl | assumption | omega))); clear hG; conv => whnf)
    | ((with_reducible have hG := app_fact hF); clear hF; (first | ((refine app_row hG ?hn ?hs (fun q hF => ?_)); (case hn => first | exact rfl | assumption | omega); (case hs => exact rfl)) ); clear hG; conv => whnf)
    | ((refine row_all ?hn ?_); (case hn => first | exact rfl | (simp; done) | (simp; omega)); conv => whnf)
    | ((with_reducible refine le_step ?hn ?_); (case hn => first | exact rfl | assumption | omega); conv => whnf)
    | ((with_reducible have hG := setx_fact hF); clear hF; (refine setx_step hG ?hs (fun q hl hF => ?_)); (case hs => exact rfl); clear hG; conv => whnf)
    | (revert hF; (with_reducible refine dem_step ?_ ?_); (intro hl hF; conv => whnf); rotate_left; (intro hF; conv => whnf); rotate_right)
    | ((refine ⟨?hx, ?_⟩); (case hx => exact ⟨rfl, Nat.le_of_ble_eq_true rfl, rfl⟩); conv => whnf)
    | ((with_reducible refine ex_step ?_); conv => whnf)
    | ((with_reducible have hG := chk_fact hF); clear hF; (refine ⟨?hx, ?_⟩); (case hx => (first | exact of_decide_eq_true hG.1 | exact hG.1)); have hF := hG.2; clear hG; conv => whnf)
    | ((with_reducible refine both_T ?hx ?_); (case hx => first | exact rfl | assumption | exact notT (by assumption)); conv => whnf)
    | ((with_reducible refine both_F ?hx ?_); (case hx => first | exact rfl | assumption | exact notF (by assumption)); conv => whnf)
    | (revert hF; (with_reducible refine ite_step ?_ ?_) <;> (intro hc hF; conv => whnf))
    | ((with_reducible refine vc_condT ?hx ?_); (case hx => exact rfl))
    | ((with_reducible refine vc_condF ?hx ?_); (case hx => exact rfl))
    | (show retD _ _ _ _ _ _; conv => whnf)
    | ((refine inl_step ?ha ?hb ?hc rfl ?_); (case ha => exact rfl); (case hb => omega); (case hc => exact Nat.le_of_ble_eq_true rfl))
    | (show Kinl _ _ _ _ _ _ _; conv => whnf)
    | ((with_reducible refine kinl_step ?ha ?hb ?_); (case ha => exact rfl); (case hb => exact rfl); conv => whnf)
    | ((refine ⟨?hx, trivial⟩); (case hx => (cases hF; exact rfl)))
    | ((refine ⟨?hx, ?_⟩); (case hx => decide); conv => whnf)
    | ((with_reducible refine k_seq ?_))
    | (have hF : (none : Option _) = some _ := hF; cases hF))
end Go.Vc
namespace Go.Vc
open Go.Proofs
set_option linter.unusedVariables false
set_option linter.unnecessarySimpa false
set_option linter.unusedSimpArgs false
/- f42: tusche/tuschelaw06.labels -/
def f42_c6 (out3 : List Label) : Option ((List Label)) :=
 some (out3)
def Sf42_c6 : Ann := ⟨[3], [90003], [(.slot 3, 90003, 50, 4)], []⟩
def Vf42_c6 (out3 : List Label) : List SV := [.rs 90003 (List.length out3)]
def Bf42_c6 (out3 : List Label) : List Blk := [.row 50 4 (List.map Label.d out3)]
theorem Cf42_c6 {c : Ctx} {p nid : Nat} {a b : Code} {st : St} {K : Ex → St → Prop} {r : (List Label)} {g : _ → Option ((List Label))} (hn : Nat.beq (nid * 1000 + firstRegion b) 6 = true) (hz : Sf42_c6.ok p = true)
    (h : g f42_c6 = some r → vc c p nid a st (Kseq (fun st' => st'.head Sf42_c6 fun v bl => ∃ x, (fun y : (List Label) => f42_c6  y = some r) x ∧ v = (fun y : (List Label) => Vf42_c6  y) x ∧ bl = (fun y : (List Label) => Bf42_c6  y) x) K))
    (h2 : ∀ (out3 : List Label), f42_c6  out3 = some r → vc c p nid b (St.mk' Sf42_c6 (Vf42_c6  out3) (Bf42_c6  out3)) K) (hF : joinK f42_c6 g = some r) : vc c p nid (.seq a b) st K :=
  vc_cut Sf42_c6 (fun y : (List Label) => Vf42_c6  y) (fun y : (List Label) => Bf42_c6  y) (fun y : (List Label) => f42_c6  y = some r) hz (h hF) fun y hy => h2 y hy
def V2f42_c6 (out3 : List Label) (m0 : Nat) : List SV := [.rs 90003 m0]
def B2f42_c6 (out3 : List Label) (m0 : Nat) : List Blk := [.row 50 4 (List.map Label.d out3)]
theorem Zf42_c6 {K : Ex → St → Prop} {r : (List Label)} {out3 : List Label} {m0 : Nat} {st st' : St} (hF : f42_c6  out3 = some r) (h1 : st.norm Sf42_c6 = some st') (h2 : st'.cutOk Sf42_c6.keep Sf42_c6.bs (memB Sf42_c6.bs) = true) (h3 : vals Sf42_c6.keep st'.e = V2f42_c6  out3 m0) (h4 : blks Sf42_c6.bs st'.m = B2f42_c6  out3 m0) (em0 : m0 = List.length out3) :
    Kseq (fun st' => st'.head Sf42_c6 fun v bl => ∃ x, (fun y : (List Label) => f42_c6  y = some r) x ∧ v = (fun y : (List Label) => Vf42_c6  y) x ∧ bl = (fun y : (List Label) => Bf42_c6  y) x) K .normal st := by
  subst em0; exact k_seq (head_in (I := (fun y : (List Label) => f42_c6  y = some r)) (x := (out3)) hF h1 h2 h3 h4)
def f42_3b (r3 : (List Label) → Int → Option ((List Label))) (a0 : List Int) (k0 : (List Label) → Option ((List Label))) (out3 : List Label) (i4 : Int) : Option ((List Label)) :=
 bif decide ((W (i4 + (3 : Int))) < (List.length a0 : Int)) then ((ix a0 i4).bind fun x1 =>
 (ix a0 (W (i4 + (1 : Int)))).bind fun x2 =>
 (ix a0 (W (i4 + (2 : Int)))).bind fun x3 =>
 (ix a0 (W (i4 + (3 : Int)))).bind fun x4 =>
 (app 32 out3 [(Label.mk x1 x2 x3 x4)]).bind fun x5 =>
 r3 x5 (W (i4 + (4 : Int))))
 else (k0 out3)
def f42_3 (a0 : List Int) (k0 : (List Label) → Option ((List Label))) : Nat → (List Label) → Int → Option ((List Label))
  | 0, _, _ => none
  | n + 1, out3, i4 => f42_3b (f42_3 a0 k0 n) a0 k0 out3 i4
def Sf42_3 : Ann := ⟨[0, 3, 4], [90003], [(.slot 3, 90003, 50, 4)], []⟩
def Vf42_3 (a0 : List Int) (out3 : List Label) (i4 : Int) : List SV := [.dat (sl_iN a0), .rs 90003 (List.length out3), .dat (iN i4)]
def Bf42_3 (a0 : List Int) (out3 : List Label) (i4 : Int) : List Blk := [.row 50 4 (List.map Label.d out3)]
def V2f42_3 (a0 : List Int) (out3 : List Label) (i4 : Int) (m0 : Nat) : List SV := [.dat (sl_iN a0), .rs 90003 m0, .dat (iN i4)]
def B2f42_3 (a0 : List Int) (out3 : List Label) (i4 : Int) (m0 : Nat) : List Blk := [.row 50 4 (List.map Label.d out3)]
theorem Lf42_3 {c : Ctx} {p nid : Nat} {a : Code} {K : Ex → St → Prop} {r : (List Label)} {a0 : List Int} {k0 : (List Label) → Option ((List Label))} {fu : Nat} {out3 : List Label} {i4 : Int} {m0 : Nat} {st st' : St} (hz : Sf42_3.ok p = true) (h1 : st.norm Sf42_3 = some st') (h2 : st'.cutOk Sf42_3.keep Sf42_3.bs (memB Sf42_3.bs) = true) (h3 : vals Sf42_3.keep st'.e = V2f42_3 a0 out3 i4 m0) (h4 : blks Sf42_3.bs st'.m = B2f42_3 a0 out3 i4 m0) (em0 : m0 = List.length out3)
    (h : ∀ (n : Nat) (out3 : List Label) (i4 : Int), f42_3b (f42_3 a0 k0 n) a0 k0 out3 i4 = some r → vc c p nid a (St.mk' Sf42_3 (Vf42_3 a0 out3 i4) (Bf42_3 a0 out3 i4)) (Kloop Sf42_3 (fun y : Nat × (List Label) × Int => Vf42_3 a0 y.2.1 y.2.2) (fun y : Nat × (List Label) × Int => Bf42_3 a0 y.2.1 y.2.2) (fun y : Nat × (List Label) × Int => f42_3 a0 k0 y.1 y.2.1 y.2.2 = some r) (fun y : Nat × (List Label) × Int => y.1) (n + 1, out3, i4) K)) (hF : f42_3 a0 k0 fu out3 i4 = some r) : vc c p nid (.loop a) st K := by
  subst em0; refine vc_loop Sf42_3 (fun y : Nat × (List Label) × Int => Vf42_3 a0 y.2.1 y.2.2) (fun y : Nat × (List Label) × Int => Bf42_3 a0 y.2.1 y.2.2) (fun y : Nat × (List Label) × Int => f42_3 a0 k0 y.1 y.2.1 y.2.2 = some r) (fun y : Nat × (List Label) × Int => y.1) hz (head_in (x := (fu, out3, i4)) hF h1 h2 h3 h4) ?_
  rintro ⟨_ | n, out3, i4⟩ hI
  · cases hI
  · exact h n out3 i4 hI
theorem Mf42_3 {K : Ex → St → Prop} {r : (List Label)} {a0 : List Int} {k0 : (List Label) → Option ((List Label))} {n : Nat} {out3 : List Label} {i4 : Int} {out3_ : List Label} {i4_ : Int} {m0 : Nat} {st st' : St} (hF : f42_3 a0 k0 n out3 i4 = some r) (h1 : st.norm Sf42_3 = some st') (h2 : st'.cutOk Sf42_3.keep Sf42_3.bs (memB Sf42_3.bs) = true) (h3 : vals Sf42_3.keep st'.e = V2f42_3 a0 out3 i4 m0) (h4 : blks Sf42_3.bs st'.m = B2f42_3 a0 out3 i4 m0) (em0 : m0 = List.length out3) :
    Kloop Sf42_3 (fun y : Nat × (List Label) × Int => Vf42_3 a0 y.2.1 y.2.2) (fun y : Nat × (List Label) × Int => Bf42_3 a0 y.2.1 y.2.2) (fun y : Nat × (List Label) × Int => f42_3 a0 k0 y.1 y.2.1 y.2.2 = some r) (fun y : Nat × (List Label) × Int => y.1) (n + 1, out3_, i4_) K .normal st := by
  subst em0; exact head_back (y := (n, out3, i4)) hF (Nat.lt_succ_self n) h1 h2 h3 h4
def f42 (N : Nat) (a0 : List Int) : Option ((List Label)) :=
 joinK f42_c6 fun k0 =>
 f42_3 a0 k0 N [] (0 : Int)
def G42 (ds : List D) (d : D) : Prop := ∃ (N : Nat) (a0 : List Int) (r : (List Label)), ds = [sl_iN a0] ∧ f42 N a0 = some r ∧ d = sl_Label r
theorem G42.step {N : Nat} {a0 : List Int} {ρ : Type} {A : (List Label) → Option ρ} {q : ρ} {ds : List D} {K : D → Prop} (hd : ds = [sl_iN a0]) (h : ∀ r, A r = some q → K (sl_Label r)) (hF : (f42 N a0).bind A = some q) : ∃ d, G42 ds d ∧ K d := by
  obtain ⟨r, hr, hA⟩ := bind_some hF
  exact ⟨_, ⟨N, a0, r, hd, hr, rfl⟩, h r hA⟩
set_option maxRecDepth 20000 in
set_option maxHeartbeats 4000000 in
theorem P42 : PureOK Try.prog 42 G42 := by
  refine pure_of_vc (c := mkCtx tyTree []) rfl tyOK (ctx_nil) [[4]] 1 Try.func42 rfl rfl (by decide) (by kernel_rfl) ?_
  rintro ds d ⟨N, a0, r, rfl, hF, rfl⟩ hok
  clear hok
  refine ⟨rfl, ?_⟩
  show vc _ _ _ _ ⟨[(0, .dat (sl_iN a0))], []⟩ _
  unfold f42 at hF
  repeat' (first
    | ((with_reducible refine q0 _ _ ?_); clear Q q0 q1 q2)
    | ((with_reducible refine q1 _ _ _ _ ?_); clear Q q0 q1 q2)
    | ((with_reducible refine q2 _ _ _ ?_); clear Q q0 q1 q2)
    | ((with_reducible refine seq_op ?hx (fun Q q0 q1 q2 => ?_)); (case hx => exact rfl); conv => whnf)
    | ((with_reducible refine draw_op ?hx (fun Q q0 q1 q2 => ?_)); (case hx => exact rfl); conv => whnf)
    | ((with_reducible refine seq_op0 ?hx (fun Q q0 q1 q2 => ?_)); (case hx => exact rfl); conv => whnf)
    | ((with_reducible refine draw_op0 ?hx (fun Q q0 q1 q2 => ?_)); (case hx => exact rfl); conv => whnf)
    | ((with_reducible refine seq_off ?hx ?_); (case hx => exact rfl))
    | ((with_reducible refine seq_off0 ?hx ?_); (case hx => exact rfl))
    | ((with_reducible refine draw_off ?hx ?_); (case hx => exact rfl))
    | ((with_reducible refine draw_off0 ?hx ?_); (case hx => exact rfl))
    | ((with_reducible refine seq_id ?_); (first | ((refine seq_opK rfl ?hy (fun Q q0 q1 q2 => ?_)); (case hy => first | assumption | exact notT (by assumption) | exact rfl); conv => whnf) | ((refine seq_offK rfl ?hy ?_); (case hy => first | assumption | exact notF (by assumption) | exact rfl)) | ((refine seq_opK0 rfl ?hy (fun Q q0 q1 q2 => ?_)); (case hy => first | assumption | exact notT (by assumption) | exact rfl); conv => whnf) | ((refine seq_offK0 rfl ?hy ?_); (case hy => first | assumption | exact notF (by assumption) | exact rfl)) | (revert hF; (with_reducible refine seq_opF ?hx ?_ ?_); (case hx => exact rfl); (intro hc hF Q q0 q1 q2; conv => whnf); rotate_left; (intro hc hF); rotate_right) | (revert hF; (with_reducible refine seq_opN ?hx ?_ ?_); (case hx => exact rfl); (intro hc hF); rotate_left; (intro hc hF Q q0 q1 q2; conv => whnf); rotate_right) | (revert hF; (with_reducible refine seq_opF0 ?hx ?_ ?_); (case hx => exact rfl); (intro hc hF Q q0 q1 q2; conv => whnf); rotate_left; (intro hc hF); rotate_right) | (revert hF; (with_reducible refine seq_opN0 ?hx ?_ ?_); (case hx => exact rfl); (intro hc hF); rotate_left; (intro hc hF Q q0 q1 q2; conv => whnf); rotate_right)))
    | ((with_reducible refine draw_id ?_); (first | ((refine draw_opK rfl ?hy (fun Q q0 q1 q2 => ?_)); (case hy => first | assumption | exact notT (by assumption) | exact rfl); conv => whnf) | ((refine draw_offK rfl ?hy ?_); (case hy => first | assumption | exact notF (by assumption) | exact rfl)) | ((refine draw_opK0 rfl ?hy (fun Q q0 q1 q2 => ?_)); (case hy => first | assumption | exact notT (by assumption) | exact rfl); conv => whnf) | ((refine draw_offK0 rfl ?hy ?_); (case hy => first | assumption | exact notF (by assumption) | exact rfl)) | (revert hF; (with_reducible refine draw_opF ?hx ?_ ?_); (case hx => exact rfl); (intro hc hF Q q0 q1 q2; conv => whnf); rotate_left; (intro hc hF); rotate_right) | (revert hF; (with_reducible refine draw_opN ?hx ?_ ?_); (case hx => exact rfl); (intro hc hF); rotate_left; (intro hc hF Q q0 q1 q2; conv => whnf); rotate_right) | (revert hF; (with_reducible refine draw_opF0 ?hx ?_ ?_); (case hx => exact rfl); (intro hc hF Q q0 q1 q2; conv => whnf); rotate_left; (intro hc hF); rotate_right) | (revert hF; (with_reducible refine draw_opN0 ?hx ?_ ?_); (case hx => exact rfl); (intro hc hF); rotate_left; (intro hc hF Q q0 q1 q2; conv => whnf); rotate_right)))
    | ((with_reducible refine cond_id ?_); (first | ((refine condKT rfl ?hy ?_); (case hy => first | assumption | exact notT (by assumption) | exact rfl)) | ((refine condKF rfl ?hy ?_); (case hy => first | assumption | exact notF (by assumption) | exact rfl)) | (revert hF; (with_reducible refine condF ?hx ?_ ?_); (case hx => exact rfl); all_goals (intro hc hF))))
    | ((with_reducible refine seq_nil ?_); (first | ((with_reducible refine hR _ ?_); clear R hR) | ((with_reducible refine hL _ ?_); clear L hL)))
    | ((with_reducible refine draw_nil ?_); (with_reducible refine hR _ _ ?hx ?_); (case hx => kernel_rfl); (first | clear R hR | clear hR))
    | ((with_reducible refine int_step ?_); conv => whnf)
    | ((with_reducible refine len_step ?_); conv => whnf)
    | ((with_reducible refine idx2 (by assumption) ?_); conv => whnf)
    | ((with_reducible refine idx3 (by assumption) ?_); conv => whnf)
    | with_reducible refine vc_block ?_
    | with_reducible refine vc_skip ?_
    | with_reducible refine vc_ret ?_
    | with_reducible refine vc_exit ?_
    | ((with_reducible refine vc_seqN [6] ?hx ?_); (case hx => exact rfl))
    | (with_reducible refine vc_region (fun R hR => ?_))
    | ((with_reducible refine vc_draw ?hx (fun R hR => ?_)); (case hx => exact rfl))
    | fail
    | (revert hF; (refine Cf42_c6 rfl rfl ?_ ?_); (intro hF); rotate_left; (intro out3 hF; unfold f42_c6 at hF); rotate_right)
    | exact Zf42_c6 hF rfl rfl rfl rfl (by first | exact rfl | assumption | omega)
    | (revert hF; (refine Lf42_3 rfl rfl rfl rfl rfl (by first | exact rfl | assumption | omega) ?_); intro n out3 i4 hF; unfold f42_3b at hF)
    | exact Mf42_3 hF rfl rfl rfl rfl (by first | exact rfl | assumption | omega)
    | with_reducible refine k_seq_ret ?_
    | with_reducible refine k_seq_exit ?_
    | with_reducible refine k_blk ?_
    | with_reducible refine k_blk_ret ?_
    | with_reducible refine k_blk_here ?_
    | ((with_reducible refine k_blk_out ?hx ?_); (case hx => exact rfl))
    | with_reducible refine k_loop_ret ?_
    | with_reducible refine k_loop_exit ?_
    | (revert hF; (with_reducible refine idx1 ?hn ?_); (case hn => first | exact rfl | exact (List.length_map _) | assumption | omega | simp); intro x hx hF; conv => whnf)
    | ((with_reducible have hG := sub_fact hF); clear hF; (first | (refine sub_step hG (fun q hF => ?_)) | (refine subrow_step hG ?hn (fun q hF => ?_); (case hn => first | exact rfl | assumption | omega))); clear hG; conv => whnf)
    | ((with_reducible have hG := app_fact hF); clear hF; (first | ((refine app_row hG ?hn ?hs (fun q hF => ?_)); (case hn => first | exact rfl | assumption | omega); (case hs => exact rfl)) | ((refine app_nil (d := Label.d) hG ?hs (fun q hF => ?_)); (case hs => exact rfl)) | ((refine app_gen (d := Label.d) hG ?ho ?hn ?hs (fun q hF => ?_)); (case ho => exact rfl); (case hn => exact rfl); (case hs => exact rfl))); clear hG; conv => whnf)
    | ((refine row_all ?hn ?_); (case hn => first | exact rfl | (simp; done) | (simp; omega)); conv => whnf)
    | ((with_reducible refine le_step ?hn ?_); (case hn => first | exact rfl | assumption | omega); conv => whnf)
    | ((with_reducible have hG := setx_fact hF); clear hF; (refine setx_step hG ?hs (fun q hl hF => ?_)); (case hs => exact rfl); clear hG; conv => whnf)
    | (revert hF; (with_reducible refine dem_step ?_ ?_); (intro hl hF; conv => whnf); rotate_left; (intro hF; conv => whnf); rotate_right)
    | ((refine ⟨?hx, ?_⟩); (case hx => exact ⟨rfl, Nat.le_of_ble_eq_true rfl, rfl⟩); conv => whnf)
    | ((with_reducible refine ex_step ?_); conv => whnf)
    | ((with_reducible have hG := chk_fact hF); clear hF; (refine ⟨?hx, ?_⟩); (case hx => (first | exact of_decide_eq_true hG.1 | exact hG.1)); have hF := hG.2; clear hG; conv => whnf)
    | ((with_reducible refine both_T ?hx ?_); (case hx => first | exact rfl | assumption | exact notT (by assumption)); conv => whnf)
    | ((with_reducible refine both_F ?hx ?_); (case hx => first | exact rfl | assumption | exact notF (by assumption)); conv => whnf)
    | (revert hF; (with_reducible refine ite_step ?_ ?_) <;> (intro hc hF; conv => whnf))
    | ((with_reducible refine vc_condT ?hx ?_); (case hx => exact rfl))
    | ((with_reducible refine vc_condF ?hx ?_); (case hx => exact rfl))
    | (show retD _ _ _ _ _ _; conv => whnf)
    | ((refine inl_step ?ha ?hb ?hc rfl ?_); (case ha => exact rfl); (case hb => omega); (case hc => exact Nat.le_of_ble_eq_true rfl))
    | (show Kinl _ _ _ _ _ _ _; conv => whnf)
    | ((with_reducible refine kinl_step ?ha ?hb ?_); (case ha => exact rfl); (case hb => exact rfl); conv => whnf)
    | ((refine ⟨?hx, trivial⟩); (case hx => (cases hF; exact rfl)))
    | ((refine ⟨?hx, ?_⟩); (case hx => decide); conv => whnf)
    | ((with_reducible refine k_seq ?_))
    | (have hF : (none : Option _) = some _ := hF; cases hF))
end Go.Vc
namespace Go.Vc
open Go.Proofs
set_option linter.unusedVariables false
set_option linter.unnecessarySimpa false
set_option linter.unusedSimpArgs false
/- f39: tusche/tuschelaw06.M -/
def f39 (N : Nat) : Option (Layout) :=
 (f42 N [(0 : Int), (0 : Int), (2 : Int), (1 : Int), (2 : Int), (0 : Int), (1 : Int), (2 : Int), (1 : Int), (2 : Int), (2 : Int), (1 : Int), (0 : Int), (1 : Int), (1 : Int), (2 : Int), (1 : Int), (1 : Int), (1 : Int), (1 : Int)]).bind fun x1 =>
 some ((Layout.mk (3 : Int) (3 : Int) x1))
def G39 (ds : List D) (d : D) : Prop := ∃ (N : Nat) (r : Layout), ds = [] ∧ f39 N  = some r ∧ d = Layout.d r
theorem G39.step {N : Nat} {ρ : Type} {A : Layout → Option ρ} {q : ρ} {ds : List D} {K : D → Prop} (hd : ds = []) (h : ∀ r, A r = some q → K (Layout.d r)) (hF : (f39 N ).bind A = some q) : ∃ d, G39 ds d ∧ K d := by
  obtain ⟨r, hr, hA⟩ := bind_some hF
  exact ⟨_, ⟨N, r, hd, hr, rfl⟩, h r hA⟩
set_option maxRecDepth 20000 in
set_option maxHeartbeats 4000000 in
theorem P39 : PureOK Try.prog 39 G39 := by
  refine pure_of_vc (c := mkCtx tyTree [(42, true, purePg [[1]] G42)]) rfl tyOK (ctx_cons (callable Try.func42 rfl rfl) P42 (ctx_nil)) [[0, 0, 4]] 0 Try.func39 rfl rfl (by decide) (by kernel_rfl) ?_
  rintro ds d ⟨N, r, rfl, hF, rfl⟩ hok
  clear hok
  refine ⟨rfl, ?_⟩
  show vc _ _ _ _ ⟨[], []⟩ _
  unfold f39 at hF
  repeat' (first
    | ((with_reducible refine q0 _ _ ?_); clear Q q0 q1 q2)
    | ((with_reducible refine q1 _ _ _ _ ?_); clear Q q0 q1 q2)
    | ((with_reducible refine q2 _ _ _ ?_); clear Q q0 q1 q2)
    | ((with_reducible refine seq_op ?hx (fun Q q0 q1 q2 => ?_)); (case hx => exact rfl); conv => whnf)
    | ((with_reducible refine draw_op ?hx (fun Q q0 q1 q2 => ?_)); (case hx => exact rfl); conv => whnf)
    | ((with_reducible refine seq_op0 ?hx (fun Q q0 q1 q2 => ?_)); (case hx => exact rfl); conv => whnf)
    | ((with_reducible refine draw_op0 ?hx (fun Q q0 q1 q2 => ?_)); (case hx => exact rfl); conv => whnf)
    | ((with_reducible refine seq_off ?hx ?_); (case hx => exact rfl))
    | ((with_reducible refine seq_off0 ?hx ?_); (case hx => exact rfl))
    | ((with_reducible refine draw_off ?hx ?_); (case hx => exact rfl))
    | ((with_reducible refine draw_off0 ?hx ?_); (case hx => exact rfl))
    | ((with_reducible refine seq_id ?_); (first | ((refine seq_opK rfl ?hy (fun Q q0 q1 q2 => ?_)); (case hy => first | assumption | exact notT (by assumption) | exact rfl); conv => whnf) | ((refine seq_offK rfl ?hy ?_); (case hy => first | assumption | exact notF (by assumption) | exact rfl)) | ((refine seq_opK0 rfl ?hy (fun Q q0 q1 q2 => ?_)); (case hy => first | assumption | exact notT (by assumption) | exact rfl); conv => whnf) | ((refine seq_offK0 rfl ?hy ?_); (case hy => first | assumption | exact notF (by assumption) | exact rfl)) | (revert hF; (with_reducible refine seq_opF ?hx ?_ ?_); (case hx => exact rfl); (intro hc hF Q q0 q1 q2; conv => whnf); rotate_left; (intro hc hF); rotate_right) | (revert hF; (with_reducible refine seq_opN ?hx ?_ ?_); (case hx => exact rfl); (intro hc hF); rotate_left; (intro hc hF Q q0 q1 q2; conv => whnf); rotate_right) | (revert hF; (with_reducible refine seq_opF0 ?hx ?_ ?_); (case hx => exact rfl); (intro hc hF Q q0 q1 q2; conv => whnf); rotate_left; (intro hc hF); rotate_right) | (revert hF; (with_reducible refine seq_opN0 ?hx ?_ ?_); (case hx => exact rfl); (intro hc hF); rotate_left; (intro hc hF Q q0 q1 q2; conv => whnf); rotate_right)))
    | ((with_reducible refine draw_id ?_); (first | ((refine draw_opK rfl ?hy (fun Q q0 q1 q2 => ?_)); (case hy => first | assumption | exact notT (by assumption) | exact rfl); conv => whnf) | ((refine draw_offK rfl ?hy ?_); (case hy => first | assumption | exact notF (by assumption) | exact rfl)) | ((refine draw_opK0 rfl ?hy (fun Q q0 q1 q2 => ?_)); (case hy => first | assumption | exact notT (by assumption) | exact rfl); conv => whnf) | ((refine draw_offK0 rfl ?hy ?_); (case hy => first | assumption | exact notF (by assumption) | exact rfl)) | (revert hF; (with_reducible refine draw_opF ?hx ?_ ?_); (case hx => exact rfl); (intro hc hF Q q0 q1 q2; conv => whnf); rotate_left; (intro hc hF); rotate_right) | (revert hF; (with_reducible refine draw_opN ?hx ?_ ?_); (case hx => exact rfl); (intro hc hF); rotate_left; (intro hc hF Q q0 q1 q2; conv => whnf); rotate_right) | (revert hF; (with_reducible refine draw_opF0 ?hx ?_ ?_); (case hx => exact rfl); (intro hc hF Q q0 q1 q2; conv => whnf); rotate_left; (intro hc hF); rotate_right) | (revert hF; (with_reducible refine draw_opN0 ?hx ?_ ?_); (case hx => exact rfl); (intro hc hF); rotate_left; (intro hc hF Q q0 q1 q2; conv => whnf); rotate_right)))
    | ((with_reducible refine cond_id ?_); (first | ((refine condKT rfl ?hy ?_); (case hy => first | assumption | exact notT (by assumption) | exact rfl)) | ((refine condKF rfl ?hy ?_); (case hy => first | assumption | exact notF (by assumption) | exact rfl)) | (revert hF; (with_reducible refine condF ?hx ?_ ?_); (case hx => exact rfl); all_goals (intro hc hF))))
    | ((with_reducible refine seq_nil ?_); (first | ((with_reducible refine hR _ ?_); clear R hR) | ((with_reducible refine hL _ ?_); clear L hL)))
    | ((with_reducible refine draw_nil ?_); (with_reducible refine hR _ _ ?hx ?_); (case hx => kernel_rfl); (first | clear R hR | clear hR))
    | ((with_reducible refine int_step ?_); conv => whnf)
    | ((with_reducible refine len_step ?_); conv => whnf)
    | ((with_reducible refine idx2 (by assumption) ?_); conv => whnf)
    | ((with_reducible refine idx3 (by assumption) ?_); conv => whnf)
    | with_reducible refine vc_block ?_
    | with_reducible refine vc_skip ?_
    | with_reducible refine vc_ret ?_
    | with_reducible refine vc_exit ?_
    | ((with_reducible refine vc_seqN [] ?hx ?_); (case hx => exact rfl))
    | (with_reducible refine vc_region (fun R hR => ?_))
    | ((with_reducible refine vc_draw ?hx (fun R hR => ?_)); (case hx => exact rfl))
    | fail
    | (revert hF; (with_reducible refine G42.step ?hx ?_); (case hx => exact rfl); intro v hF; conv => whnf)
    | with_reducible refine k_seq_ret ?_
    | with_reducible refine k_seq_exit ?_
    | with_reducible refine k_blk ?_
    | with_reducible refine k_blk_ret ?_
    | with_reducible refine k_blk_here ?_
    | ((with_reducible refine k_blk_out ?hx ?_); (case hx => exact rfl))
    | with_reducible refine k_loop_ret ?_
    | with_reducible refine k_loop_exit ?_
    | (revert hF; (with_reducible refine idx1 ?hn ?_); (case hn => first | exact rfl | exact (List.length_map _) | assumption | omega | simp); intro x hx hF; conv => whnf)
    | ((with_reducible have hG := sub_fact hF); clear hF; (first | (refine sub_step hG (fun q hF => ?_)) | (refine subrow_step hG ?hn (fun q hF => ?_); (case hn => first | exact rfl | assumption | omega))); clear hG; conv => whnf)
    | ((with_reducible have hG := app_fact hF); clear hF; (first | ((refine app_row hG ?hn ?hs (fun q hF => ?_)); (case hn => first | exact rfl | assumption | omega); (case hs => exact rfl)) ); clear hG; conv => whnf)
    | ((refine row_all ?hn ?_); (case hn => first | exact rfl | (simp; done) | (simp; omega)); conv => whnf)
    | ((with_reducible refine le_step ?hn ?_); (case hn => first | exact rfl | assumption | omega); conv => whnf)
    | ((with_reducible have hG := setx_fact hF); clear hF; (refine setx_step hG ?hs (fun q hl hF => ?_)); (case hs => exact rfl); clear hG; conv => whnf)
    | (revert hF; (with_reducible refine dem_step ?_ ?_); (intro hl hF; conv => whnf); rotate_left; (intro hF; conv => whnf); rotate_right)
    | ((refine ⟨?hx, ?_⟩); (case hx => exact ⟨rfl, Nat.le_of_ble_eq_true rfl, rfl⟩); conv => whnf)
    | ((with_reducible refine ex_step ?_); conv => whnf)
    | ((with_reducible have hG := chk_fact hF); clear hF; (refine ⟨?hx, ?_⟩); (case hx => (first | exact of_decide_eq_true hG.1 | exact hG.1)); have hF := hG.2; clear hG; conv => whnf)
    | ((with_reducible refine both_T ?hx ?_); (case hx => first | exact rfl | assumption | exact notT (by assumption)); conv => whnf)
    | ((with_reducible refine both_F ?hx ?_); (case hx => first | exact rfl | assumption | exact notF (by assumption)); conv => whnf)
    | (revert hF; (with_reducible refine ite_step ?_ ?_) <;> (intro hc hF; conv => whnf))
    | ((with_reducible refine vc_condT ?hx ?_); (case hx => exact rfl))
    | ((with_reducible refine vc_condF ?hx ?_); (case hx => exact rfl))
    | (show retD _ _ _ _ _ _; conv => whnf)
    | ((refine inl_step ?ha ?hb ?hc rfl ?_); (case ha => exact rfl); (case hb => omega); (case hc => exact Nat.le_of_ble_eq_true rfl))
    | (show Kinl _ _ _ _ _ _ _; conv => whnf)
    | ((with_reducible refine kinl_step ?ha ?hb ?_); (case ha => exact rfl); (case hb => exact rfl); conv => whnf)
    | ((refine ⟨?hx, trivial⟩); (case hx => (cases hF; exact rfl)))
    | ((refine ⟨?hx, ?_⟩); (case hx => decide); conv => whnf)
    | ((with_reducible refine k_seq ?_))
    | (have hF : (none : Option _) = some _ := hF; cases hF))
end Go.Vc
namespace Go.Vc
open Go.Proofs
set_option linter.unusedVariables false
set_option linter.unnecessarySimpa false
set_option linter.unusedSimpArgs false
/- f40: tusche/tuschelaw06.kinds -/
def f40_c6 (out3 : List Kind) : Option ((List Kind)) :=
 some (out3)
def Sf40_c6 : Ann := ⟨[3], [90003], [(.slot 3, 90003, 88, 3)], []⟩
def Vf40_c6 (out3 : List Kind) : List SV := [.rs 90003 (List.length out3)]
def Bf40_c6 (out3 : List Kind) : List Blk := [.row 88 3 (List.map Kind.d out3)]
theorem Cf40_c6 {c : Ctx} {p nid : Nat} {a b : Code} {st : St} {K : Ex → St → Prop} {r : (List Kind)} {g : _ → Option ((List Kind))} (hn : Nat.beq (nid * 1000 + firstRegion b) 6 = true) (hz : Sf40_c6.ok p = true)
    (h : g f40_c6 = some r → vc c p nid a st (Kseq (fun st' => st'.head Sf40_c6 fun v bl => ∃ x, (fun y : (List Kind) => f40_c6  y = some r) x ∧ v = (fun y : (List Kind) => Vf40_c6  y) x ∧ bl = (fun y : (List Kind) => Bf40_c6  y) x) K))
    (h2 : ∀ (out3 : List Kind), f40_c6  out3 = some r → vc c p nid b (St.mk' Sf40_c6 (Vf40_c6  out3) (Bf40_c6  out3)) K) (hF : joinK f40_c6 g = some r) : vc c p nid (.seq a b) st K :=
  vc_cut Sf40_c6 (fun y : (List Kind) => Vf40_c6  y) (fun y : (List Kind) => Bf40_c6  y) (fun y : (List Kind) => f40_c6  y = some r) hz (h hF) fun y hy => h2 y hy
def V2f40_c6 (out3 : List Kind) (m0 : Nat) : List SV := [.rs 90003 m0]
def B2f40_c6 (out3 : List Kind) (m0 : Nat) : List Blk := [.row 88 3 (List.map Kind.d out3)]
theorem Zf40_c6 {K : Ex → St → Prop} {r : (List Kind)} {out3 : List Kind} {m0 : Nat} {st st' : St} (hF : f40_c6  out3 = some r) (h1 : st.norm Sf40_c6 = some st') (h2 : st'.cutOk Sf40_c6.keep Sf40_c6.bs (memB Sf40_c6.bs) = true) (h3 : vals Sf40_c6.keep st'.e = V2f40_c6  out3 m0) (h4 : blks Sf40_c6.bs st'.m = B2f40_c6  out3 m0) (em0 : m0 = List.length out3) :
    Kseq (fun st' => st'.head Sf40_c6 fun v bl => ∃ x, (fun y : (List Kind) => f40_c6  y = some r) x ∧ v = (fun y : (List Kind) => Vf40_c6  y) x ∧ bl = (fun y : (List Kind) => Bf40_c6  y) x) K .normal st := by
  subst em0; exact k_seq (head_in (I := (fun y : (List Kind) => f40_c6  y = some r)) (x := (out3)) hF h1 h2 h3 h4)
def f40_3b (r3 : (List Kind) → Int → Option ((List Kind))) (a0 : List Int) (k0 : (List Kind) → Option ((List Kind))) (out3 : List Kind) (i4 : Int) : Option ((List Kind)) :=
 bif decide ((W (i4 + (2 : Int))) < (List.length a0 : Int)) then ((ix a0 i4).bind fun x1 =>
 (ix a0 (W (i4 + (1 : Int)))).bind fun x2 =>
 (ix a0 (W (i4 + (2 : Int)))).bind fun x3 =>
 (app 24 out3 [(Kind.mk x1 x2 x3)]).bind fun x4 =>
 r3 x4 (W (i4 + (3 : Int))))
 else (k0 out3)
def f40_3 (a0 : List Int) (k0 : (List Kind) → Option ((List Kind))) : Nat → (List Kind) → Int → Option ((List Kind))
  | 0, _, _ => none
  | n + 1, out3, i4 => f40_3b (f40_3 a0 k0 n) a0 k0 out3 i4
def Sf40_3 : Ann := ⟨[0, 3, 4], [90003], [(.slot 3, 90003, 88, 3)], []⟩
def Vf40_3 (a0 : List Int) (out3 : List Kind) (i4 : Int) : List SV := [.dat (sl_iN a0), .rs 90003 (List.length out3), .dat (iN i4)]
def Bf40_3 (a0 : List Int) (out3 : List Kind) (i4 : Int) : List Blk := [.row 88 3 (List.map Kind.d out3)]
def V2f40_3 (a0 : List Int) (out3 : List Kind) (i4 : Int) (m0 : Nat) : List SV := [.dat (sl_iN a0), .rs 90003 m0, .dat (iN i4)]
def B2f40_3 (a0 : List Int) (out3 : List Kind) (i4 : Int) (m0 : Nat) : List Blk := [.row 88 3 (List.map Kind.d out3)]
theorem Lf40_3 {c : Ctx} {p nid : Nat} {a : Code} {K : Ex → St → Prop} {r : (List Kind)} {a0 : List Int} {k0 : (List Kind) → Option ((List Kind))} {fu : Nat} {out3 : List Kind} {i4 : Int} {m0 : Nat} {st st' : St} (hz : Sf40_3.ok p = true) (h1 : st.norm Sf40_3 = some st') (h2 : st'.cutOk Sf40_3.keep Sf40_3.bs (memB Sf40_3.bs) = true) (h3 : vals Sf40_3.keep st'.e = V2f40_3 a0 out3 i4 m0) (h4 : blks Sf40_3.bs st'.m = B2f40_3 a0 out3 i4 m0) (em0 : m0 = List.length out3)
    (h : ∀ (n : Nat) (out3 : List Kind) (i4 : Int), f40_3b (f40_3 a0 k0 n) a0 k0 out3 i4 = some r → vc c p nid a (St.mk' Sf40_3 (Vf40_3 a0 out3 i4) (Bf40_3 a0 out3 i4)) (Kloop Sf40_3 (fun y : Nat × (List Kind) × Int => Vf40_3 a0 y.2.1 y.2.2) (fun y : Nat × (List Kind) × Int => Bf40_3 a0 y.2.1 y.2.2) (fun y : Nat × (List Kind) × Int => f40_3 a0 k0 y.1 y.2.1 y.2.2 = some r) (fun y : Nat × (List Kind) × Int => y.1) (n + 1, out3, i4) K)) (hF : f40_3 a0 k0 fu out3 i4 = some r) : vc c p nid (.loop a) st K := by
  subst em0; refine vc_loop Sf40_3 (fun y : Nat × (List Kind) × Int => Vf40_3 a0 y.2.1 y.2.2) (fun y : Nat × (List Kind) × Int => Bf40_3 a0 y.2.1 y.2.2) (fun y : Nat × (List Kind) × Int => f40_3 a0 k0 y.1 y.2.1 y.2.2 = some r) (fun y : Nat × (List Kind) × Int => y.1) hz (head_in (x := (fu, out3, i4)) hF h1 h2 h3 h4) ?_
  rintro ⟨_ | n, out3, i4⟩ hI
  · cases hI
  · exact h n out3 i4 hI
theorem Mf40_3 {K : Ex → St → Prop} {r : (List Kind)} {a0 : List Int} {k0 : (List Kind) → Option ((List Kind))} {n : Nat} {out3 : List Kind} {i4 : Int} {out3_ : List Kind} {i4_ : Int} {m0 : Nat} {st st' : St} (hF : f40_3 a0 k0 n out3 i4 = some r) (h1 : st.norm Sf40_3 = some st') (h2 : st'.cutOk Sf40_3.keep Sf40_3.bs (memB Sf40_3.bs) = true) (h3 : vals Sf40_3.keep st'.e = V2f40_3 a0 out3 i4 m0) (h4 : blks Sf40_3.bs st'.m = B2f40_3 a0 out3 i4 m0) (em0 : m0 = List.length out3) :
    Kloop Sf40_3 (fun y : Nat × (List Kind) × Int => Vf40_3 a0 y.2.1 y.2.2) (fun y : Nat × (List Kind) × Int => Bf40_3 a0 y.2.1 y.2.2) (fun y : Nat × (List Kind) × Int => f40_3 a0 k0 y.1 y.2.1 y.2.2 = some r) (fun y : Nat × (List Kind) × Int => y.1) (n + 1, out3_, i4_) K .normal st := by
  subst em0; exact head_back (y := (n, out3, i4)) hF (Nat.lt_succ_self n) h1 h2 h3 h4
def f40 (N : Nat) (a0 : List Int) : Option ((List Kind)) :=
 joinK f40_c6 fun k0 =>
 f40_3 a0 k0 N [] (0 : Int)
def G40 (ds : List D) (d : D) : Prop := ∃ (N : Nat) (a0 : List Int) (r : (List Kind)), ds = [sl_iN a0] ∧ f40 N a0 = some r ∧ d = sl_Kind r
theorem G40.step {N : Nat} {a0 : List Int} {ρ : Type} {A : (List Kind) → Option ρ} {q : ρ} {ds : List D} {K : D → Prop} (hd : ds = [sl_iN a0]) (h : ∀ r, A r = some q → K (sl_Kind r)) (hF : (f40 N a0).bind A = some q) : ∃ d, G40 ds d ∧ K d := by
  obtain ⟨r, hr, hA⟩ := bind_some hF
  exact ⟨_, ⟨N, a0, r, hd, hr, rfl⟩, h r hA⟩
set_option maxRecDepth 20000 in
set_option maxHeartbeats 4000000 in
theorem P40 : PureOK Try.prog 40 G40 := by
  refine pure_of_vc (c := mkCtx tyTree []) rfl tyOK (ctx_nil) [[3]] 1 Try.func40 rfl rfl (by decide) (by kernel_rfl) ?_
  rintro ds d ⟨N, a0, r, rfl, hF, rfl⟩ hok
  clear hok
  refine ⟨rfl, ?_⟩
  show vc _ _ _ _ ⟨[(0, .dat (sl_iN a0))], []⟩ _
  unfold f40 at hF
  repeat' (first
    | ((with_reducible refine q0 _ _ ?_); clear Q q0 q1 q2)
    | ((with_reducible refine q1 _ _ _ _ ?_); clear Q q0 q1 q2)
    | ((with_reducible refine q2 _ _ _ ?_); clear Q q0 q1 q2)
    | ((with_reducible refine seq_op ?hx (fun Q q0 q1 q2 => ?_)); (case hx => exact rfl); conv => whnf)
    | ((with_reducible refine draw_op ?hx (fun Q q0 q1 q2 => ?_)); (case hx => exact rfl); conv => whnf)
    | ((with_reducible refine seq_op0 ?hx (fun Q q0 q1 q2 => ?_)); (case hx => exact rfl); conv => whnf)
    | ((with_reducible refine draw_op0 ?hx (fun Q q0 q1 q2 => ?_)); (case hx => exact rfl); conv => whnf)
    | ((with_reducible refine seq_off ?hx ?_); (case hx => exact rfl))
    | ((with_reducible refine seq_off0 ?hx ?_); (case hx => exact rfl))
    | ((with_reducible refine draw_off ?hx ?_); (case hx => exact rfl))
    | ((with_reducible refine draw_off0 ?hx ?_); (case hx => exact rfl))
    | ((with_reducible refine seq_id ?_); (first | ((refine seq_opK rfl ?hy (fun Q q0 q1 q2 => ?_)); (case hy => first | assumption | exact notT (by assumption) | exact rfl); conv => whnf) | ((refine seq_offK rfl ?hy ?_); (case hy => first | assumption | exact notF (by assumption) | exact rfl)) | ((refine seq_opK0 rfl ?hy (fun Q q0 q1 q2 => ?_)); (case hy => first | assumption | exact notT (by assumption) | exact rfl); conv => whnf) | ((refine seq_offK0 rfl ?hy ?_); (case hy => first | assumption | exact notF (by assumption) | exact rfl)) | (revert hF; (with_reducible refine seq_opF ?hx ?_ ?_); (case hx => exact rfl); (intro hc hF Q q0 q1 q2; conv => whnf); rotate_left; (intro hc hF); rotate_right) | (revert hF; (with_reducible refine seq_opN ?hx ?_ ?_); (case hx => exact rfl); (intro hc hF); rotate_left; (intro hc hF Q q0 q1 q2; conv => whnf); rotate_right) | (revert hF; (with_reducible refine seq_opF0 ?hx ?_ ?_); (case hx => exact rfl); (intro hc hF Q q0 q1 q2; conv => whnf); rotate_left; (intro hc hF); rotate_right) | (revert hF; (with_reducible refine seq_opN0 ?hx ?_ ?_); (case hx => exact rfl); (intro hc hF); rotate_left; (intro hc hF Q q0 q1 q2; conv => whnf); rotate_right)))
    | ((with_reducible refine draw_id ?_); (first | ((refine draw_opK rfl ?hy (fun Q q0 q1 q2 => ?_)); (case hy => first | assumption | exact notT (by assumption) | exact rfl); conv => whnf) | ((refine draw_offK rfl ?hy ?_); (case hy => first | assumption | exact notF (by assumption) | exact rfl)) | ((refine draw_opK0 rfl ?hy (fun Q q0 q1 q2 => ?_)); (case hy => first | assumption | exact notT (by assumption) | exact rfl); conv => whnf) | ((refine draw_offK0 rfl ?hy ?_); (case hy => first | assumption | exact notF (by assumption) | exact rfl)) | (revert hF; (with_reducible refine draw_opF ?hx ?_ ?_); (case hx => exact rfl); (intro hc hF Q q0 q1 q2; conv => whnf); rotate_left; (intro hc hF); rotate_right) | (revert hF; (with_reducible refine draw_opN ?hx ?_ ?_); (case hx => exact rfl); (intro hc hF); rotate_left; (intro hc hF Q q0 q1 q2; conv => whnf); rotate_right) | (revert hF; (with_reducible refine draw_opF0 ?hx ?_ ?_); (case hx => exact rfl); (intro hc hF Q q0 q1 q2; conv => whnf); rotate_left; (intro hc hF); rotate_right) | (revert hF; (with_reducible refine draw_opN0 ?hx ?_ ?_); (case hx => exact rfl); (intro hc hF); rotate_left; (intro hc hF Q q0 q1 q2; conv => whnf); rotate_right)))
    | ((with_reducible refine cond_id ?_); (first | ((refine condKT rfl ?hy ?_); (case hy => first | assumption | exact notT (by assumption) | exact rfl)) | ((refine condKF rfl ?hy ?_); (case hy => first | assumption | exact notF (by assumption) | exact rfl)) | (revert hF; (with_reducible refine condF ?hx ?_ ?_); (case hx => exact rfl); all_goals (intro hc hF))))
    | ((with_reducible refine seq_nil ?_); (first | ((with_reducible refine hR _ ?_); clear R hR) | ((with_reducible refine hL _ ?_); clear L hL)))
    | ((with_reducible refine draw_nil ?_); (with_reducible refine hR _ _ ?hx ?_); (case hx => kernel_rfl); (first | clear R hR | clear hR))
    | ((with_reducible refine int_step ?_); conv => whnf)
    | ((with_reducible refine len_step ?_); conv => whnf)
    | ((with_reducible refine idx2 (by assumption) ?_); conv => whnf)
    | ((with_reducible refine idx3 (by assumption) ?_); conv => whnf)
    | with_reducible refine vc_block ?_
    | with_reducible refine vc_skip ?_
    | with_reducible refine vc_ret ?_
    | with_reducible refine vc_exit ?_
    | ((with_reducible refine vc_seqN [6] ?hx ?_); (case hx => exact rfl))
    | (with_reducible refine vc_region (fun R hR => ?_))
    | ((with_reducible refine vc_draw ?hx (fun R hR => ?_)); (case hx => exact rfl))
    | fail
    | (revert hF; (refine Cf40_c6 rfl rfl ?_ ?_); (intro hF); rotate_left; (intro out3 hF; unfold f40_c6 at hF); rotate_right)
    | exact Zf40_c6 hF rfl rfl rfl rfl (by first | exact rfl | assumption | omega)
    | (revert hF; (refine Lf40_3 rfl rfl rfl rfl rfl (by first | exact rfl | assumption | omega) ?_); intro n out3 i4 hF; unfold f40_3b at hF)
    | exact Mf40_3 hF rfl rfl rfl rfl (by first | exact rfl | assumption | omega)
    | with_reducible refine k_seq_ret ?_
    | with_reducible refine k_seq_exit ?_
    | with_reducible refine k_blk ?_
    | with_reducible refine k_blk_ret ?_
    | with_reducible refine k_blk_here ?_
    | ((with_reducible refine k_blk_out ?hx ?_); (case hx => exact rfl))
    | with_reducible refine k_loop_ret ?_
    | with_reducible refine k_loop_exit ?_
    | (revert hF; (with_reducible refine idx1 ?hn ?_); (case hn => first | exact rfl | exact (List.length_map _) | assumption | omega | simp); intro x hx hF; conv => whnf)
    | ((with_reducible have hG := sub_fact hF); clear hF; (first | (refine sub_step hG (fun q hF => ?_)) | (refine subrow_step hG ?hn (fun q hF => ?_); (case hn => first | exact rfl | assumption | omega))); clear hG; conv => whnf)
    | ((with_reducible have hG := app_fact hF); clear hF; (first | ((refine app_row hG ?hn ?hs (fun q hF => ?_)); (case hn => first | exact rfl | assumption | omega); (case hs => exact rfl)) | ((refine app_nil (d := Kind.d) hG ?hs (fun q hF => ?_)); (case hs => exact rfl)) | ((refine app_gen (d := Kind.d) hG ?ho ?hn ?hs (fun q hF => ?_)); (case ho => exact rfl); (case hn => exact rfl); (case hs => exact rfl))); clear hG; conv => whnf)
    | ((refine row_all ?hn ?_); (case hn => first | exact rfl | (simp; done) | (simp; omega)); conv => whnf)
    | ((with_reducible refine le_step ?hn ?_); (case hn => first | exact rfl | assumption | omega); conv => whnf)
    | ((with_reducible have hG := setx_fact hF); clear hF; (refine setx_step hG ?hs (fun q hl hF => ?_)); (case hs => exact rfl); clear hG; conv => whnf)
    | (revert hF; (with_reducible refine dem_step ?_ ?_); (intro hl hF; conv => whnf); rotate_left; (intro hF; conv => whnf); rotate_right)
    | ((refine ⟨?hx, ?_⟩); (case hx => exact ⟨rfl, Nat.le_of_ble_eq_true rfl, rfl⟩); conv => whnf)
    | ((with_reducible refine ex_step ?_); conv => whnf)
    | ((with_reducible have hG := chk_fact hF); clear hF; (refine ⟨?hx, ?_⟩); (case hx => (first | exact of_decide_eq_true hG.1 | exact hG.1)); have hF := hG.2; clear hG; conv => whnf)
    | ((with_reducible refine both_T ?hx ?_); (case hx => first | exact rfl | assumption | exact notT (by assumption)); conv => whnf)
    | ((with_reducible refine both_F ?hx ?_); (case hx => first | exact rfl | assumption | exact notF (by assumption)); conv => whnf)
    | (revert hF; (with_reducible refine ite_step ?_ ?_) <;> (intro hc hF; conv => whnf))
    | ((with_reducible refine vc_condT ?hx ?_); (case hx => exact rfl))
    | ((with_reducible refine vc_condF ?hx ?_); (case hx => exact rfl))
    | (show retD _ _ _ _ _ _; conv => whnf)
    | ((refine inl_step ?ha ?hb ?hc rfl ?_); (case ha => exact rfl); (case hb => omega); (case hc => exact Nat.le_of_ble_eq_true rfl))
    | (show Kinl _ _ _ _ _ _ _; conv => whnf)
    | ((with_reducible refine kinl_step ?ha ?hb ?_); (case ha => exact rfl); (case hb => exact rfl); conv => whnf)
    | ((refine ⟨?hx, trivial⟩); (case hx => (cases hF; exact rfl)))
    | ((refine ⟨?hx, ?_⟩); (case hx => decide); conv => whnf)
    | ((with_reducible refine k_seq ?_))
    | (have hF : (none : Option _) = some _ := hF; cases hF))
end Go.Vc
namespace Go.Vc
open Go.Proofs
set_option linter.unusedVariables false
set_option linter.unnecessarySimpa false
set_option linter.unusedSimpArgs false
/- f41: tusche/tuschelaw06.L -/
def f41 (N : Nat) : Option (Layout) :=
 (f42 N [(0 : Int), (0 : Int), (2 : Int), (4 : Int), (2 : Int), (0 : Int), (4 : Int), (2 : Int), (2 : Int), (2 : Int), (2 : Int), (2 : Int), (4 : Int), (2 : Int), (2 : Int), (2 : Int)]).bind fun x1 =>
 some ((Layout.mk (6 : Int) (4 : Int) x1))
def G41 (ds : List D) (d : D) : Prop := ∃ (N : Nat) (r : Layout), ds = [] ∧ f41 N  = some r ∧ d = Layout.d r
theorem G41.step {N : Nat} {ρ : Type} {A : Layout → Option ρ} {q : ρ} {ds : List D} {K : D → Prop} (hd : ds = []) (h : ∀ r, A r = some q → K (Layout.d r)) (hF : (f41 N ).bind A = some q) : ∃ d, G41 ds d ∧ K d := by
  obtain ⟨r, hr, hA⟩ := bind_some hF
  exact ⟨_, ⟨N, r, hd, hr, rfl⟩, h r hA⟩
set_option maxRecDepth 20000 in
set_option maxHeartbeats 4000000 in
theorem P41 : PureOK Try.prog 41 G41 := by
  refine pure_of_vc (c := mkCtx tyTree [(42, true, purePg [[1]] G42)]) rfl tyOK (ctx_cons (callable Try.func42 rfl rfl) P42 (ctx_nil)) [[0, 0, 4]] 0 Try.func41 rfl rfl (by decide) (by kernel_rfl) ?_
  rintro ds d ⟨N, r, rfl, hF, rfl⟩ hok
  clear hok
  refine ⟨rfl, ?_⟩
  show vc _ _ _ _ ⟨[], []⟩ _
  unfold f41 at hF
  repeat' (first
    | ((with_reducible refine q0 _ _ ?_); clear Q q0 q1 q2)
    | ((with_reducible refine q1 _ _ _ _ ?_); clear Q q0 q1 q2)
    | ((with_reducible refine q2 _ _ _ ?_); clear Q q0 q1 q2)
    | ((with_reducible refine seq_op ?hx (fun Q q0 q1 q2 => ?_)); (case hx => exact rfl); conv => whnf)
    | ((with_reducible refine draw_op ?hx (fun Q q0 q1 q2 => ?_)); (case hx => exact rfl); conv => whnf)
    | ((with_reducible refine seq_op0 ?hx (fun Q q0 q1 q2 => ?_)); (case hx => exact rfl); conv => whnf)
    | ((with_reducible refine draw_op0 ?hx (fun Q q0 q1 q2 => ?_)); (case hx => exact rfl); conv => whnf)
    | ((with_reducible refine seq_off ?hx ?_); (case hx => exact rfl))
    | ((with_reducible refine seq_off0 ?hx ?_); (case hx => exact rfl))
    | ((with_reducible refine draw_off ?hx ?_); (case hx => exact rfl))
    | ((with_reducible refine draw_off0 ?hx ?_); (case hx => exact rfl))
    | ((with_reducible refine seq_id ?_); (first | ((refine seq_opK rfl ?hy (fun Q q0 q1 q2 => ?_)); (case hy => first | assumption | exact notT (by assumption) | exact rfl); conv => whnf) | ((refine seq_offK rfl ?hy ?_); (case hy => first | assumption | exact notF (by assumption) | exact rfl)) | ((refine seq_opK0 rfl ?hy (fun Q q0 q1 q2 => ?_)); (case hy => first | assumption | exact notT (by assumption) | exact rfl); conv => whnf) | ((refine seq_offK0 rfl ?hy ?_); (case hy => first | assumption | exact notF (by assumption) | exact rfl)) | (revert hF; (with_reducible refine seq_opF ?hx ?_ ?_); (case hx => exact rfl); (intro hc hF Q q0 q1 q2; conv => whnf); rotate_left; (intro hc hF); rotate_right) | (revert hF; (with_reducible refine seq_opN ?hx ?_ ?_); (case hx => exact rfl); (intro hc hF); rotate_left; (intro hc hF Q q0 q1 q2; conv => whnf); rotate_right) | (revert hF; (with_reducible refine seq_opF0 ?hx ?_ ?_); (case hx => exact rfl); (intro hc hF Q q0 q1 q2; conv => whnf); rotate_left; (intro hc hF); rotate_right) | (revert hF; (with_reducible refine seq_opN0 ?hx ?_ ?_); (case hx => exact rfl); (intro hc hF); rotate_left; (intro hc hF Q q0 q1 q2; conv => whnf); rotate_right)))
    | ((with_reducible refine draw_id ?_); (first | ((refine draw_opK rfl ?hy (fun Q q0 q1 q2 => ?_)); (case hy => first | assumption | exact notT (by assumption) | exact rfl); conv => whnf) | ((refine draw_offK rfl ?hy ?_); (case hy => first | assumption | exact notF (by assumption) | exact rfl)) | ((refine draw_opK0 rfl ?hy (fun Q q0 q1 q2 => ?_)); (case hy => first | assumption | exact notT (by assumption) | exact rfl); conv => whnf) | ((refine draw_offK0 rfl ?hy ?_); (case hy => first | assumption | exact notF (by assumption) | exact rfl)) | (revert hF; (with_reducible refine draw_opF ?hx ?_ ?_); (case hx => exact rfl); (intro hc hF Q q0 q1 q2; conv => whnf); rotate_left; (intro hc hF); rotate_right) | (revert hF; (with_reducible refine draw_opN ?hx ?_ ?_); (case hx => exact rfl); (intro hc hF); rotate_left; (intro hc hF Q q0 q1 q2; conv => whnf); rotate_right) | (revert hF; (with_reducible refine draw_opF0 ?hx ?_ ?_); (case hx => exact rfl); (intro hc hF Q q0 q1 q2; conv => whnf); rotate_left; (intro hc hF); rotate_right) | (revert hF; (with_reducible refine draw_opN0 ?hx ?_ ?_); (case hx => exact rfl); (intro hc hF); rotate_left; (intro hc hF Q q0 q1 q2; conv => whnf); rotate_right)))
    | ((with_reducible refine cond_id ?_); (first | ((refine condKT rfl ?hy ?_); (case hy => first | assumption | exact notT (by assumption) | exact rfl)) | ((refine condKF rfl ?hy ?_); (case hy => first | assumption | exact notF (by assumption) | exact rfl)) | (revert hF; (with_reducible refine condF ?hx ?_ ?_); (case hx => exact rfl); all_goals (intro hc hF))))
    | ((with_reducible refine seq_nil ?_); (first | ((with_reducible refine hR _ ?_); clear R hR) | ((with_reducible refine hL _ ?_); clear L hL)))
    | ((with_reducible refine draw_nil ?_); (with_reducible refine hR _ _ ?hx ?_); (case hx => kernel_rfl); (first | clear R hR | clear hR))
    | ((with_reducible refine int_step ?_); conv => whnf)
    | ((with_reducible refine len_step ?_); conv => whnf)
    | ((with_reducible refine idx2 (by assumption) ?_); conv => whnf)
    | ((with_reducible refine idx3 (by assumption) ?_); conv => whnf)
    | with_reducible refine vc_block ?_
    | with_reducible refine vc_skip ?_
    | with_reducible refine vc_ret ?_
    | with_reducible refine vc_exit ?_
    | ((with_reducible refine vc_seqN [] ?hx ?_); (case hx => exact rfl))
    | (with_reducible refine vc_region (fun R hR => ?_))
    | ((with_reducible refine vc_draw ?hx (fun R hR => ?_)); (case hx => exact rfl))
    | fail
    | (revert hF; (with_reducible refine G42.step ?hx ?_); (case hx => exact rfl); intro v hF; conv => whnf)
    | with_reducible refine k_seq_ret ?_
    | with_reducible refine k_seq_exit ?_
    | with_reducible refine k_blk ?_
    | with_reducible refine k_blk_ret ?_
    | with_reducible refine k_blk_here ?_
    | ((with_reducible refine k_blk_out ?hx ?_); (case hx => exact rfl))
    | with_reducible refine k_loop_ret ?_
    | with_reducible refine k_loop_exit ?_
    | (revert hF; (with_reducible refine idx1 ?hn ?_); (case hn => first | exact rfl | exact (List.length_map _) | assumption | omega | simp); intro x hx hF; conv => whnf)
    | ((with_reducible have hG := sub_fact hF); clear hF; (first | (refine sub_step hG (fun q hF => ?_)) | (refine subrow_step hG ?hn (fun q hF => ?_); (case hn => first | exact rfl | assumption | omega))); clear hG; conv => whnf)
    | ((with_reducible have hG := app_fact hF); clear hF; (first | ((refine app_row hG ?hn ?hs (fun q hF => ?_)); (case hn => first | exact rfl | assumption | omega); (case hs => exact rfl)) ); clear hG; conv => whnf)
    | ((refine row_all ?hn ?_); (case hn => first | exact rfl | (simp; done) | (simp; omega)); conv => whnf)
    | ((with_reducible refine le_step ?hn ?_); (case hn => first | exact rfl | assumption | omega); conv => whnf)
    | ((with_reducible have hG := setx_fact hF); clear hF; (refine setx_step hG ?hs (fun q hl hF => ?_)); (case hs => exact rfl); clear hG; conv => whnf)
    | (revert hF; (with_reducible refine dem_step ?_ ?_); (intro hl hF; conv => whnf); rotate_left; (intro hF; conv => whnf); rotate_right)
    | ((refine ⟨?hx, ?_⟩); (case hx => exact ⟨rfl, Nat.le_of_ble_eq_true rfl, rfl⟩); conv => whnf)
    | ((with_reducible refine ex_step ?_); conv => whnf)
    | ((with_reducible have hG := chk_fact hF); clear hF; (refine ⟨?hx, ?_⟩); (case hx => (first | exact of_decide_eq_true hG.1 | exact hG.1)); have hF := hG.2; clear hG; conv => whnf)
    | ((with_reducible refine both_T ?hx ?_); (case hx => first | exact rfl | assumption | exact notT (by assumption)); conv => whnf)
    | ((with_reducible refine both_F ?hx ?_); (case hx => first | exact rfl | assumption | exact notF (by assumption)); conv => whnf)
    | (revert hF; (with_reducible refine ite_step ?_ ?_) <;> (intro hc hF; conv => whnf))
    | ((with_reducible refine vc_condT ?hx ?_); (case hx => exact rfl))
    | ((with_reducible refine vc_condF ?hx ?_); (case hx => exact rfl))
    | (show retD _ _ _ _ _ _; conv => whnf)
    | ((refine inl_step ?ha ?hb ?hc rfl ?_); (case ha => exact rfl); (case hb => omega); (case hc => exact Nat.le_of_ble_eq_true rfl))
    | (show Kinl _ _ _ _ _ _ _; conv => whnf)
    | ((with_reducible refine kinl_step ?ha ?hb ?_); (case ha => exact rfl); (case hb => exact rfl); conv => whnf)
    | ((refine ⟨?hx, trivial⟩); (case hx => (cases hF; exact rfl)))
    | ((refine ⟨?hx, ?_⟩); (case hx => decide); conv => whnf)
    | ((with_reducible refine k_seq ?_))
    | (have hF : (none : Option _) = some _ := hF; cases hF))
end Go.Vc
namespace Go.Vc
open Go.Proofs
set_option linter.unusedVariables false
set_option linter.unnecessarySimpa false
set_option linter.unusedSimpArgs false
/- f43: tusche/tuschelaw06.cuts -/
def f43_c8 : Option (Bool) :=
 some (true)
def Sf43_c8 : Ann := ⟨[], [], [], []⟩
def Vf43_c8 : List SV := []
def Bf43_c8 : List Blk := []
theorem Cf43_c8 {c : Ctx} {p nid : Nat} {a b : Code} {st : St} {K : Ex → St → Prop} {r : Bool} {g : _ → Option (Bool)} (hn : Nat.beq (nid * 1000 + firstRegion b) 8 = true) (hz : Sf43_c8.ok p = true)
    (h : g f43_c8 = some r → vc c p nid a st (Kseq (fun st' => st'.head Sf43_c8 fun v bl => ∃ x, (fun y : Unit => f43_c8   = some r) x ∧ v = (fun y : Unit => Vf43_c8  ) x ∧ bl = (fun y : Unit => Bf43_c8  ) x) K))
    (h2 : ∀ (_ : Unit), f43_c8   = some r → vc c p nid b (St.mk' Sf43_c8 (Vf43_c8  ) (Bf43_c8  )) K) (hF : joinK f43_c8 g = some r) : vc c p nid (.seq a b) st K :=
  vc_cut Sf43_c8 (fun y : Unit => Vf43_c8  ) (fun y : Unit => Bf43_c8  ) (fun y : Unit => f43_c8   = some r) hz (h hF) fun y hy => h2 () hy
theorem Zf43_c8 {K : Ex → St → Prop} {r : Bool} {st st' : St} (hF : f43_c8   = some r) (h1 : st.norm Sf43_c8 = some st') (h2 : st'.cutOk Sf43_c8.keep Sf43_c8.bs (memB Sf43_c8.bs) = true) (h3 : vals Sf43_c8.keep st'.e = Vf43_c8  ) (h4 : blks Sf43_c8.bs st'.m = Bf43_c8  ) :
    Kseq (fun st' => st'.head Sf43_c8 fun v bl => ∃ x, (fun y : Unit => f43_c8   = some r) x ∧ v = (fun y : Unit => Vf43_c8  ) x ∧ bl = (fun y : Unit => Bf43_c8  ) x) K .normal st := by
  exact k_seq (head_in (I := (fun y : Unit => f43_c8   = some r)) (x := ()) hF h1 h2 h3 h4)
def f43_4b (r4 : Int → Option (Bool)) (a0 : List Cut) (a1 : List Cut) (k0 : Option (Bool)) (i5 : Int) : Option (Bool) :=
 bif decide (i5 < (List.length a0 : Int)) then ((ix a0 i5).bind fun x1 =>
 (ix a1 i5).bind fun x2 =>
 bif !((x1.Up == x2.Up) && (decide (x1.At = x2.At) && true)) then (some (false))
 else (r4 (W (i5 + (1 : Int)))))
 else k0
def f43_4 (a0 : List Cut) (a1 : List Cut) (k0 : Option (Bool)) : Nat → Int → Option (Bool)
  | 0, _ => none
  | n + 1, i5 => f43_4b (f43_4 a0 a1 k0 n) a0 a1 k0 i5
def Sf43_4 : Ann := ⟨[0, 1, 5], [], [], []⟩
def Vf43_4 (a0 : List Cut) (a1 : List Cut) (i5 : Int) : List SV := [.dat (sl_Cut a0), .dat (sl_Cut a1), .dat (iN i5)]
def Bf43_4 (a0 : List Cut) (a1 : List Cut) (i5 : Int) : List Blk := []
theorem Lf43_4 {c : Ctx} {p nid : Nat} {a : Code} {K : Ex → St → Prop} {r : Bool} {a0 : List Cut} {a1 : List Cut} {k0 : Option (Bool)} {fu : Nat} {i5 : Int} {st st' : St} (hz : Sf43_4.ok p = true) (h1 : st.norm Sf43_4 = some st') (h2 : st'.cutOk Sf43_4.keep Sf43_4.bs (memB Sf43_4.bs) = true) (h3 : vals Sf43_4.keep st'.e = Vf43_4 a0 a1 i5) (h4 : blks Sf43_4.bs st'.m = Bf43_4 a0 a1 i5)
    (h : ∀ (n : Nat) (i5 : Int), f43_4b (f43_4 a0 a1 k0 n) a0 a1 k0 i5 = some r → vc c p nid a (St.mk' Sf43_4 (Vf43_4 a0 a1 i5) (Bf43_4 a0 a1 i5)) (Kloop Sf43_4 (fun y : Nat × Int => Vf43_4 a0 a1 y.2) (fun y : Nat × Int => Bf43_4 a0 a1 y.2) (fun y : Nat × Int => f43_4 a0 a1 k0 y.1 y.2 = some r) (fun y : Nat × Int => y.1) (n + 1, i5) K)) (hF : f43_4 a0 a1 k0 fu i5 = some r) : vc c p nid (.loop a) st K := by
  refine vc_loop Sf43_4 (fun y : Nat × Int => Vf43_4 a0 a1 y.2) (fun y : Nat × Int => Bf43_4 a0 a1 y.2) (fun y : Nat × Int => f43_4 a0 a1 k0 y.1 y.2 = some r) (fun y : Nat × Int => y.1) hz (head_in (x := (fu, i5)) hF h1 h2 h3 h4) ?_
  rintro ⟨_ | n, i5⟩ hI
  · cases hI
  · exact h n i5 hI
theorem Mf43_4 {K : Ex → St → Prop} {r : Bool} {a0 : List Cut} {a1 : List Cut} {k0 : Option (Bool)} {n : Nat} {i5 : Int} {i5_ : Int} {st st' : St} (hF : f43_4 a0 a1 k0 n i5 = some r) (h1 : st.norm Sf43_4 = some st') (h2 : st'.cutOk Sf43_4.keep Sf43_4.bs (memB Sf43_4.bs) = true) (h3 : vals Sf43_4.keep st'.e = Vf43_4 a0 a1 i5) (h4 : blks Sf43_4.bs st'.m = Bf43_4 a0 a1 i5) :
    Kloop Sf43_4 (fun y : Nat × Int => Vf43_4 a0 a1 y.2) (fun y : Nat × Int => Bf43_4 a0 a1 y.2) (fun y : Nat × Int => f43_4 a0 a1 k0 y.1 y.2 = some r) (fun y : Nat × Int => y.1) (n + 1, i5_) K .normal st := by
  exact head_back (y := (n, i5)) hF (Nat.lt_succ_self n) h1 h2 h3 h4
def f43 (N : Nat) (a0 : List Cut) (a1 : List Cut) : Option (Bool) :=
 bif decide (¬ (List.length a0 : Int) = (List.length a1 : Int)) then (some (false))
 else (joinK f43_c8 fun k0 =>
 f43_4 a0 a1 k0 N (0 : Int))
def G43 (ds : List D) (d : D) : Prop := ∃ (N : Nat) (a0 : List Cut) (a1 : List Cut) (r : Bool), ds = [sl_Cut a0, sl_Cut a1] ∧ f43 N a0 a1 = some r ∧ d = bN r
theorem G43.step {N : Nat} {a0 : List Cut} {a1 : List Cut} {ρ : Type} {A : Bool → Option ρ} {q : ρ} {ds : List D} {K : D → Prop} (hd : ds = [sl_Cut a0, sl_Cut a1]) (h : ∀ r, A r = some q → K (bN r)) (hF : (f43 N a0 a1).bind A = some q) : ∃ d, G43 ds d ∧ K d := by
  obtain ⟨r, hr, hA⟩ := bind_some hF
  exact ⟨_, ⟨N, a0, a1, r, hd, hr, rfl⟩, h r hA⟩
set_option maxRecDepth 20000 in
set_option maxHeartbeats 4000000 in
theorem P43 : PureOK Try.prog 43 G43 := by
  refine pure_of_vc (c := mkCtx tyTree []) rfl tyOK (ctx_nil) [[0]] 2 Try.func43 rfl rfl (by decide) (by kernel_rfl) ?_
  rintro ds d ⟨N, a0, a1, r, rfl, hF, rfl⟩ hok
  clear hok
  refine ⟨rfl, ?_⟩
  show vc _ _ _ _ ⟨[(0, .dat (sl_Cut a0)), (1, .dat (sl_Cut a1))], []⟩ _
  unfold f43 at hF
  repeat' (first
    | ((with_reducible refine q0 _ _ ?_); clear Q q0 q1 q2)
    | ((with_reducible refine q1 _ _ _ _ ?_); clear Q q0 q1 q2)
    | ((with_reducible refine q2 _ _ _ ?_); clear Q q0 q1 q2)
    | ((with_reducible refine seq_op ?hx (fun Q q0 q1 q2 => ?_)); (case hx => exact rfl); conv => whnf)
    | ((with_reducible refine draw_op ?hx (fun Q q0 q1 q2 => ?_)); (case hx => exact rfl); conv => whnf)
    | ((with_reducible refine seq_op0 ?hx (fun Q q0 q1 q2 => ?_)); (case hx => exact rfl); conv => whnf)
    | ((with_reducible refine draw_op0 ?hx (fun Q q0 q1 q2 => ?_)); (case hx => exact rfl); conv => whnf)
    | ((with_reducible refine seq_off ?hx ?_); (case hx => exact rfl))
    | ((with_reducible refine seq_off0 ?hx ?_); (case hx => exact rfl))
    | ((with_reducible refine draw_off ?hx ?_); (case hx => exact rfl))
    | ((with_reducible refine draw_off0 ?hx ?_); (case hx => exact rfl))
    | ((with_reducible refine seq_id ?_); (first | ((refine seq_opK rfl ?hy (fun Q q0 q1 q2 => ?_)); (case hy => first | assumption | exact notT (by assumption) | exact rfl); conv => whnf) | ((refine seq_offK rfl ?hy ?_); (case hy => first | assumption | exact notF (by assumption) | exact rfl)) | ((refine seq_opK0 rfl ?hy (fun Q q0 q1 q2 => ?_)); (case hy => first | assumption | exact notT (by assumption) | exact rfl); conv => whnf) | ((refine seq_offK0 rfl ?hy ?_); (case hy => first | assumption | exact notF (by assumption) | exact rfl)) | (revert hF; (with_reducible refine seq_opF ?hx ?_ ?_); (case hx => exact rfl); (intro hc hF Q q0 q1 q2; conv => whnf); rotate_left; (intro hc hF); rotate_right) | (revert hF; (with_reducible refine seq_opN ?hx ?_ ?_); (case hx => exact rfl); (intro hc hF); rotate_left; (intro hc hF Q q0 q1 q2; conv => whnf); rotate_right) | (revert hF; (with_reducible refine seq_opF0 ?hx ?_ ?_); (case hx => exact rfl); (intro hc hF Q q0 q1 q2; conv => whnf); rotate_left; (intro hc hF); rotate_right) | (revert hF; (with_reducible refine seq_opN0 ?hx ?_ ?_); (case hx => exact rfl); (intro hc hF); rotate_left; (intro hc hF Q q0 q1 q2; conv => whnf); rotate_right)))
    | ((with_reducible refine draw_id ?_); (first | ((refine draw_opK rfl ?hy (fun Q q0 q1 q2 => ?_)); (case hy => first | assumption | exact notT (by assumption) | exact rfl); conv => whnf) | ((refine draw_offK rfl ?hy ?_); (case hy => first | assumption | exact notF (by assumption) | exact rfl)) | ((refine draw_opK0 rfl ?hy (fun Q q0 q1 q2 => ?_)); (case hy => first | assumption | exact notT (by assumption) | exact rfl); conv => whnf) | ((refine draw_offK0 rfl ?hy ?_); (case hy => first | assumption | exact notF (by assumption) | exact rfl)) | (revert hF; (with_reducible refine draw_opF ?hx ?_ ?_); (case hx => exact rfl); (intro hc hF Q q0 q1 q2; conv => whnf); rotate_left; (intro hc hF); rotate_right) | (revert hF; (with_reducible refine draw_opN ?hx ?_ ?_); (case hx => exact rfl); (intro hc hF); rotate_left; (intro hc hF Q q0 q1 q2; conv => whnf); rotate_right) | (revert hF; (with_reducible refine draw_opF0 ?hx ?_ ?_); (case hx => exact rfl); (intro hc hF Q q0 q1 q2; conv => whnf); rotate_left; (intro hc hF); rotate_right) | (revert hF; (with_reducible refine draw_opN0 ?hx ?_ ?_); (case hx => exact rfl); (intro hc hF); rotate_left; (intro hc hF Q q0 q1 q2; conv => whnf); rotate_right)))
    | ((with_reducible refine cond_id ?_); (first | ((refine condKT rfl ?hy ?_); (case hy => first | assumption | exact notT (by assumption) | exact rfl)) | ((refine condKF rfl ?hy ?_); (case hy => first | assumption | exact notF (by assumption) | exact rfl)) | (revert hF; (with_reducible refine condF ?hx ?_ ?_); (case hx => exact rfl); all_goals (intro hc hF))))
    | ((with_reducible refine seq_nil ?_); (first | ((with_reducible refine hR _ ?_); clear R hR) | ((with_reducible refine hL _ ?_); clear L hL)))
    | ((with_reducible refine draw_nil ?_); (with_reducible refine hR _ _ ?hx ?_); (case hx => kernel_rfl); (first | clear R hR | clear hR))
    | ((with_reducible refine int_step ?_); conv => whnf)
    | ((with_reducible refine len_step ?_); conv => whnf)
    | ((with_reducible refine idx2 (by assumption) ?_); conv => whnf)
    | ((with_reducible refine idx3 (by assumption) ?_); conv => whnf)
    | with_reducible refine vc_block ?_
    | with_reducible refine vc_skip ?_
    | with_reducible refine vc_ret ?_
    | with_reducible refine vc_exit ?_
    | ((with_reducible refine vc_seqN [8] ?hx ?_); (case hx => exact rfl))
    | (with_reducible refine vc_region (fun R hR => ?_))
    | ((with_reducible refine vc_draw ?hx (fun R hR => ?_)); (case hx => exact rfl))
    | fail
    | (revert hF; (refine Cf43_c8 rfl rfl ?_ ?_); (intro hF); rotate_left; (intro _ hF; unfold f43_c8 at hF); rotate_right)
    | exact Zf43_c8 hF rfl rfl rfl rfl
    | (revert hF; (refine Lf43_4 rfl rfl rfl rfl rfl ?_); intro n i5 hF; unfold f43_4b at hF)
    | exact Mf43_4 hF rfl rfl rfl rfl
    | with_reducible refine k_seq_ret ?_
    | with_reducible refine k_seq_exit ?_
    | with_reducible refine k_blk ?_
    | with_reducible refine k_blk_ret ?_
    | with_reducible refine k_blk_here ?_
    | ((with_reducible refine k_blk_out ?hx ?_); (case hx => exact rfl))
    | with_reducible refine k_loop_ret ?_
    | with_reducible refine k_loop_exit ?_
    | (revert hF; (with_reducible refine idx1 ?hn ?_); (case hn => first | exact rfl | exact (List.length_map _) | assumption | omega | simp); intro x hx hF; conv => whnf)
    | ((with_reducible have hG := sub_fact hF); clear hF; (first | (refine sub_step hG (fun q hF => ?_)) | (refine subrow_step hG ?hn (fun q hF => ?_); (case hn => first | exact rfl | assumption | omega))); clear hG; conv => whnf)
    | ((with_reducible have hG := app_fact hF); clear hF; (first | ((refine app_row hG ?hn ?hs (fun q hF => ?_)); (case hn => first | exact rfl | assumption | omega); (case hs => exact rfl)) ); clear hG; conv => whnf)
    | ((refine row_all ?hn ?_); (case hn => first | exact rfl | (simp; done) | (simp; omega)); conv => whnf)
    | ((with_reducible refine le_step ?hn ?_); (case hn => first | exact rfl | assumption | omega); conv => whnf)
    | ((with_reducible have hG := setx_fact hF); clear hF; (refine setx_step hG ?hs (fun q hl hF => ?_)); (case hs => exact rfl); clear hG; conv => whnf)
    | (revert hF; (with_reducible refine dem_step ?_ ?_); (intro hl hF; conv => whnf); rotate_left; (intro hF; conv => whnf); rotate_right)
    | ((refine ⟨?hx, ?_⟩); (case hx => exact ⟨rfl, Nat.le_of_ble_eq_true rfl, rfl⟩); conv => whnf)
    | ((with_reducible refine ex_step ?_); conv => whnf)
    | ((with_reducible have hG := chk_fact hF); clear hF; (refine ⟨?hx, ?_⟩); (case hx => (first | exact of_decide_eq_true hG.1 | exact hG.1)); have hF := hG.2; clear hG; conv => whnf)
    | ((with_reducible refine both_T ?hx ?_); (case hx => first | exact rfl | assumption | exact notT (by assumption)); conv => whnf)
    | ((with_reducible refine both_F ?hx ?_); (case hx => first | exact rfl | assumption | exact notF (by assumption)); conv => whnf)
    | (revert hF; (with_reducible refine ite_step ?_ ?_) <;> (intro hc hF; conv => whnf))
    | ((with_reducible refine vc_condT ?hx ?_); (case hx => exact rfl))
    | ((with_reducible refine vc_condF ?hx ?_); (case hx => exact rfl))
    | (show retD _ _ _ _ _ _; conv => whnf)
    | ((refine inl_step ?ha ?hb ?hc rfl ?_); (case ha => exact rfl); (case hb => omega); (case hc => exact Nat.le_of_ble_eq_true rfl))
    | (show Kinl _ _ _ _ _ _ _; conv => whnf)
    | ((with_reducible refine kinl_step ?ha ?hb ?_); (case ha => exact rfl); (case hb => exact rfl); conv => whnf)
    | ((refine ⟨?hx, trivial⟩); (case hx => (cases hF; exact rfl)))
    | ((refine ⟨?hx, ?_⟩); (case hx => decide); conv => whnf)
    | ((with_reducible refine k_seq ?_))
    | (have hF : (none : Option _) = some _ := hF; cases hF))
end Go.Vc
namespace Go.Vc
open Go.Proofs
set_option linter.unusedVariables false
set_option linter.unnecessarySimpa false
set_option linter.unusedSimpArgs false
/- f13: tusche/tuschelaw06.works -/
def f13 (N : Nat) : Option (Bool) :=
 (f41 N ).bind fun x1 =>
 (f15 N x1).bind fun x2 =>
 (f41 N ).bind fun x3 =>
 (f22 N x3).bind fun x4 =>
 (f39 N ).bind fun x5 =>
 (f22 N x5).bind fun x6 =>
 (f39 N ).bind fun x7 =>
 (f24 N x7).bind fun x8 =>
 (f40 N [(2 : Int), (2 : Int), (3 : Int), (3 : Int), (1 : Int), (2 : Int)]).bind fun x9 =>
 (f29 N (5 : Int) (4 : Int) x9).bind fun x10 =>
 (f41 N ).bind fun x11 =>
 (f40 N [(2 : Int), (2 : Int), (3 : Int), (2 : Int), (4 : Int), (5 : Int), (4 : Int), (2 : Int), (1 : Int)]).bind fun x12 =>
 (f17 N x11 x12).bind fun x13 =>
 (f40 N [(2 : Int), (2 : Int), (3 : Int), (3 : Int), (1 : Int), (2 : Int)]).bind fun x14 =>
 (f31 N (5 : Int) (4 : Int) x14).bind fun x15 =>
 bif decide (¬ x2.2 = (0 : Int)) then (some (false))
 else (bif decide (¬ x4.2 = (0 : Int)) then (some (false))
 else (bif decide (¬ x6.2 = (14 : Int)) then (some (false))
 else (bif decide (¬ x8.2 = (0 : Int)) then (some (false))
 else (bif decide (¬ x10.2 = (0 : Int)) then (some (false))
 else (bif decide (¬ x13.2 = (0 : Int)) then (some (false))
 else (bif decide (¬ x15.2 = (0 : Int)) then (some (false))
 else ((f40 N [(2 : Int), (2 : Int), (3 : Int), (3 : Int), (1 : Int), (2 : Int)]).bind fun x16 =>
 (f17 N x15.1 x16).bind fun x17 =>
 bif decide (x17.2 = (0 : Int)) then (bif decide (x17.1 = (14 : Int)) then ((f43 N x2.1 [(Cut.mk true (2 : Int))]).bind fun x18 =>
 bif x18 then (bif decide ((List.length x4.1 : Int) = (3 : Int)) then ((f41 N ).bind fun x19 =>
 (f25 N x19 x4.1).bind fun x20 =>
 bif decide (x20 = (0 : Int)) then (bif (decide (x8.1.X = (0 : Int)) && (decide (x8.1.Y = (0 : Int)) && (decide (x8.1.W = (3 : Int)) && (decide (x8.1.H = (3 : Int)) && true)))) then (bif decide (x10.1 = (14 : Int)) then (bif decide (x13.1 = (12 : Int)) then ((f41 N ).bind fun x21 =>
 (f25 N x21 [(Cut.mk true (2 : Int)), (Cut.mk false (2 : Int))]).bind fun x22 =>
 bif decide (x22 = (22 : Int)) then ((f41 N ).bind fun x23 =>
 (f25 N x23 [(Cut.mk true (3 : Int))]).bind fun x24 =>
 some (decide (x24 = (13 : Int))))
 else (some (false)))
 else (some (false)))
 else (some (false)))
 else (some (false)))
 else (some (false)))
 else (some (false)))
 else (some (false)))
 else (some (false)))
 else (some (false)))))))))
def G13 (ds : List D) (d : D) : Prop := ∃ (N : Nat) (r : Bool), ds = [] ∧ f13 N  = some r ∧ d = bN r
theorem G13.step {N : Nat} {ρ : Type} {A : Bool → Option ρ} {q : ρ} {ds : List D} {K : D → Prop} (hd : ds = []) (h : ∀ r, A r = some q → K (bN r)) (hF : (f13 N ).bind A = some q) : ∃ d, G13 ds d ∧ K d := by
  obtain ⟨r, hr, hA⟩ := bind_some hF
  exact ⟨_, ⟨N, r, hd, hr, rfl⟩, h r hA⟩
set_option maxRecDepth 20000 in
set_option maxHeartbeats 4000000 in
theorem P13 : PureOK Try.prog 13 G13 := by
  refine pure_of_vc (c := mkCtx tyTree [(43, true, purePg [[2], [2]] G43), (41, true, purePg [] G41), (40, true, purePg [[1]] G40), (39, true, purePg [] G39), (31, true, purePg [[0], [0], [3]] G31), (29, true, purePg [[0], [0], [3]] G29), (25, true, purePg [[0, 0, 4], [2]] G25), (24, true, purePg [[0, 0, 4]] G24), (22, true, purePg [[0, 0, 4]] G22), (17, true, purePg [[0, 0, 4], [3]] G17), (15, true, purePg [[0, 0, 4]] G15)]) rfl tyOK (ctx_cons (callable Try.func43 rfl rfl) P43 (ctx_cons (callable Try.func41 rfl rfl) P41 (ctx_cons (callable Try.func40 rfl rfl) P40 (ctx_cons (callable Try.func39 rfl rfl) P39 (ctx_cons (callable Try.func31 rfl rfl) P31 (ctx_cons (callable Try.func29 rfl rfl) P29 (ctx_cons (callable Try.func25 rfl rfl) P25 (ctx_cons (callable Try.func24 rfl rfl) P24 (ctx_cons (callable Try.func22 rfl rfl) P22 (ctx_cons (callable Try.func17 rfl rfl) P17 (ctx_cons (callable Try.func15 rfl rfl) P15 (ctx_nil)))))))))))) [[0]] 0 Try.func13 rfl rfl (by decide) (by kernel_rfl) ?_
  rintro ds d ⟨N, r, rfl, hF, rfl⟩ hok
  clear hok
  refine ⟨rfl, ?_⟩
  show vc _ _ _ _ ⟨[], []⟩ _
  unfold f13 at hF
  repeat' (first
    | ((with_reducible refine q0 _ _ ?_); clear Q q0 q1 q2)
    | ((with_reducible refine q1 _ _ _ _ ?_); clear Q q0 q1 q2)
    | ((with_reducible refine q2 _ _ _ ?_); clear Q q0 q1 q2)
    | ((with_reducible refine seq_op ?hx (fun Q q0 q1 q2 => ?_)); (case hx => exact rfl); conv => whnf)
    | ((with_reducible refine draw_op ?hx (fun Q q0 q1 q2 => ?_)); (case hx => exact rfl); conv => whnf)
    | ((with_reducible refine seq_op0 ?hx (fun Q q0 q1 q2 => ?_)); (case hx => exact rfl); conv => whnf)
    | ((with_reducible refine draw_op0 ?hx (fun Q q0 q1 q2 => ?_)); (case hx => exact rfl); conv => whnf)
    | ((with_reducible refine seq_off ?hx ?_); (case hx => exact rfl))
    | ((with_reducible refine seq_off0 ?hx ?_); (case hx => exact rfl))
    | ((with_reducible refine draw_off ?hx ?_); (case hx => exact rfl))
    | ((with_reducible refine draw_off0 ?hx ?_); (case hx => exact rfl))
    | ((with_reducible refine seq_id ?_); (first | ((refine seq_opK rfl ?hy (fun Q q0 q1 q2 => ?_)); (case hy => first | assumption | exact notT (by assumption) | exact rfl); conv => whnf) | ((refine seq_offK rfl ?hy ?_); (case hy => first | assumption | exact notF (by assumption) | exact rfl)) | ((refine seq_opK0 rfl ?hy (fun Q q0 q1 q2 => ?_)); (case hy => first | assumption | exact notT (by assumption) | exact rfl); conv => whnf) | ((refine seq_offK0 rfl ?hy ?_); (case hy => first | assumption | exact notF (by assumption) | exact rfl)) | (revert hF; (with_reducible refine seq_opF ?hx ?_ ?_); (case hx => exact rfl); (intro hc hF Q q0 q1 q2; conv => whnf); rotate_left; (intro hc hF); rotate_right) | (revert hF; (with_reducible refine seq_opN ?hx ?_ ?_); (case hx => exact rfl); (intro hc hF); rotate_left; (intro hc hF Q q0 q1 q2; conv => whnf); rotate_right) | (revert hF; (with_reducible refine seq_opF0 ?hx ?_ ?_); (case hx => exact rfl); (intro hc hF Q q0 q1 q2; conv => whnf); rotate_left; (intro hc hF); rotate_right) | (revert hF; (with_reducible refine seq_opN0 ?hx ?_ ?_); (case hx => exact rfl); (intro hc hF); rotate_left; (intro hc hF Q q0 q1 q2; conv => whnf); rotate_right)))
    | ((with_reducible refine draw_id ?_); (first | ((refine draw_opK rfl ?hy (fun Q q0 q1 q2 => ?_)); (case hy => first | assumption | exact notT (by assumption) | exact rfl); conv => whnf) | ((refine draw_offK rfl ?hy ?_); (case hy => first | assumption | exact notF (by assumption) | exact rfl)) | ((refine draw_opK0 rfl ?hy (fun Q q0 q1 q2 => ?_)); (case hy => first | assumption | exact notT (by assumption) | exact rfl); conv => whnf) | ((refine draw_offK0 rfl ?hy ?_); (case hy => first | assumption | exact notF (by assumption) | exact rfl)) | (revert hF; (with_reducible refine draw_opF ?hx ?_ ?_); (case hx => exact rfl); (intro hc hF Q q0 q1 q2; conv => whnf); rotate_left; (intro hc hF); rotate_right) | (revert hF; (with_reducible refine draw_opN ?hx ?_ ?_); (case hx => exact rfl); (intro hc hF); rotate_left; (intro hc hF Q q0 q1 q2; conv => whnf); rotate_right) | (revert hF; (with_reducible refine draw_opF0 ?hx ?_ ?_); (case hx => exact rfl); (intro hc hF Q q0 q1 q2; conv => whnf); rotate_left; (intro hc hF); rotate_right) | (revert hF; (with_reducible refine draw_opN0 ?hx ?_ ?_); (case hx => exact rfl); (intro hc hF); rotate_left; (intro hc hF Q q0 q1 q2; conv => whnf); rotate_right)))
    | ((with_reducible refine cond_id ?_); (first | ((refine condKT rfl ?hy ?_); (case hy => first | assumption | exact notT (by assumption) | exact rfl)) | ((refine condKF rfl ?hy ?_); (case hy => first | assumption | exact notF (by assumption) | exact rfl)) | (revert hF; (with_reducible refine condF ?hx ?_ ?_); (case hx => exact rfl); all_goals (intro hc hF))))
    | ((with_reducible refine seq_nil ?_); (first | ((with_reducible refine hR _ ?_); clear R hR) | ((with_reducible refine hL _ ?_); clear L hL)))
    | ((with_reducible refine draw_nil ?_); (with_reducible refine hR _ _ ?hx ?_); (case hx => kernel_rfl); (first | clear R hR | clear hR))
    | ((with_reducible refine int_step ?_); conv => whnf)
    | ((with_reducible refine len_step ?_); conv => whnf)
    | ((with_reducible refine idx2 (by assumption) ?_); conv => whnf)
    | ((with_reducible refine idx3 (by assumption) ?_); conv => whnf)
    | with_reducible refine vc_block ?_
    | with_reducible refine vc_skip ?_
    | with_reducible refine vc_ret ?_
    | with_reducible refine vc_exit ?_
    | ((with_reducible refine vc_seqN [] ?hx ?_); (case hx => exact rfl))
    | (with_reducible refine vc_region (fun R hR => ?_))
    | ((with_reducible refine vc_draw ?hx (fun R hR => ?_)); (case hx => exact rfl))
    | fail
    | (revert hF; (with_reducible refine G15.step ?hx ?_); (case hx => exact rfl); intro v hF; conv => whnf)
    | (revert hF; (with_reducible refine G17.step ?hx ?_); (case hx => exact rfl); intro v hF; conv => whnf)
    | (revert hF; (with_reducible refine G22.step ?hx ?_); (case hx => exact rfl); intro v hF; conv => whnf)
    | (revert hF; (with_reducible refine G24.step ?hx ?_); (case hx => exact rfl); intro v hF; conv => whnf)
    | (revert hF; (with_reducible refine G25.step ?hx ?_); (case hx => exact rfl); intro v hF; conv => whnf)
    | (revert hF; (with_reducible refine G29.step ?hx ?_); (case hx => exact rfl); intro v hF; conv => whnf)
    | (revert hF; (with_reducible refine G31.step ?hx ?_); (case hx => exact rfl); intro v hF; conv => whnf)
    | (revert hF; (with_reducible refine G39.step ?hx ?_); (case hx => exact rfl); intro v hF; conv => whnf)
    | (revert hF; (with_reducible refine G40.step ?hx ?_); (case hx => exact rfl); intro v hF; conv => whnf)
    | (revert hF; (with_reducible refine G41.step ?hx ?_); (case hx => exact rfl); intro v hF; conv => whnf)
    | (revert hF; (with_reducible refine G43.step ?hx ?_); (case hx => exact rfl); intro v hF; conv => whnf)
    | with_reducible refine k_seq_ret ?_
    | with_reducible refine k_seq_exit ?_
    | with_reducible refine k_blk ?_
    | with_reducible refine k_blk_ret ?_
    | with_reducible refine k_blk_here ?_
    | ((with_reducible refine k_blk_out ?hx ?_); (case hx => exact rfl))
    | with_reducible refine k_loop_ret ?_
    | with_reducible refine k_loop_exit ?_
    | (revert hF; (with_reducible refine idx1 ?hn ?_); (case hn => first | exact rfl | exact (List.length_map _) | assumption | omega | simp); intro x hx hF; conv => whnf)
    | ((with_reducible have hG := sub_fact hF); clear hF; (first | (refine sub_step hG (fun q hF => ?_)) | (refine subrow_step hG ?hn (fun q hF => ?_); (case hn => first | exact rfl | assumption | omega))); clear hG; conv => whnf)
    | ((with_reducible have hG := app_fact hF); clear hF; (first | ((refine app_row hG ?hn ?hs (fun q hF => ?_)); (case hn => first | exact rfl | assumption | omega); (case hs => exact rfl)) ); clear hG; conv => whnf)
    | ((refine row_all ?hn ?_); (case hn => first | exact rfl | (simp; done) | (simp; omega)); conv => whnf)
    | ((with_reducible refine le_step ?hn ?_); (case hn => first | exact rfl | assumption | omega); conv => whnf)
    | ((with_reducible have hG := setx_fact hF); clear hF; (refine setx_step hG ?hs (fun q hl hF => ?_)); (case hs => exact rfl); clear hG; conv => whnf)
    | (revert hF; (with_reducible refine dem_step ?_ ?_); (intro hl hF; conv => whnf); rotate_left; (intro hF; conv => whnf); rotate_right)
    | ((refine ⟨?hx, ?_⟩); (case hx => exact ⟨rfl, Nat.le_of_ble_eq_true rfl, rfl⟩); conv => whnf)
    | ((with_reducible refine ex_step ?_); conv => whnf)
    | ((with_reducible have hG := chk_fact hF); clear hF; (refine ⟨?hx, ?_⟩); (case hx => (first | exact of_decide_eq_true hG.1 | exact hG.1)); have hF := hG.2; clear hG; conv => whnf)
    | ((with_reducible refine both_T ?hx ?_); (case hx => first | exact rfl | assumption | exact notT (by assumption)); conv => whnf)
    | ((with_reducible refine both_F ?hx ?_); (case hx => first | exact rfl | assumption | exact notF (by assumption)); conv => whnf)
    | (revert hF; (with_reducible refine ite_step ?_ ?_) <;> (intro hc hF; conv => whnf))
    | ((with_reducible refine vc_condT ?hx ?_); (case hx => exact rfl))
    | ((with_reducible refine vc_condF ?hx ?_); (case hx => exact rfl))
    | (show retD _ _ _ _ _ _; conv => whnf)
    | ((refine inl_step ?ha ?hb ?hc rfl ?_); (case ha => exact rfl); (case hb => omega); (case hc => exact Nat.le_of_ble_eq_true rfl))
    | (show Kinl _ _ _ _ _ _ _; conv => whnf)
    | ((with_reducible refine kinl_step ?ha ?hb ?_); (case ha => exact rfl); (case hb => exact rfl); conv => whnf)
    | ((refine ⟨?hx, trivial⟩); (case hx => (cases hF; exact rfl)))
    | ((refine ⟨?hx, ?_⟩); (case hx => decide); conv => whnf)
    | ((with_reducible refine k_seq ?_))
    | (have hF : (none : Option _) = some _ := hF; cases hF))
end Go.Vc
namespace Go.Vc
open Go.Proofs
set_option linter.unusedVariables false
set_option linter.unnecessarySimpa false
set_option linter.unusedSimpArgs false
/- f14: tusche/tuschelaw06.given -/
def f14_c6 (a0 : Layout) (b105_2 : List Label) : Option (Layout) :=
 some ((Layout.mk a0.W a0.H b105_2))
def Sf14_c6 : Ann := ⟨[2, 3], [1, 105, 90500], [(.cell 105 2, 90500, 57, 4)], []⟩
def Vf14_c6 (a0 : Layout) (b105_2 : List Label) : List SV := [.ptr 1 0, .ptr 105 0]
def Bf14_c6 (a0 : Layout) (b105_2 : List Label) : List Blk := [.box [.dat (iN (0 : Int)), .dat (iN (0 : Int)), .nil], .box [.dat (iN a0.W), .dat (iN a0.H), .rs 90500 (List.length b105_2)], .row 57 4 (List.map Label.d b105_2)]
theorem Cf14_c6 {c : Ctx} {p nid : Nat} {a b : Code} {st : St} {K : Ex → St → Prop} {r : Layout} {a0 : Layout} {g : _ → Option (Layout)} (hn : Nat.beq (nid * 1000 + firstRegion b) 6 = true) (hz : Sf14_c6.ok p = true)
    (h : g (f14_c6 a0) = some r → vc c p nid a st (Kseq (fun st' => st'.head Sf14_c6 fun v bl => ∃ x, (fun y : (List Label) => f14_c6 a0 y = some r) x ∧ v = (fun y : (List Label) => Vf14_c6 a0 y) x ∧ bl = (fun y : (List Label) => Bf14_c6 a0 y) x) K))
    (h2 : ∀ (b105_2 : List Label), f14_c6 a0 b105_2 = some r → vc c p nid b (St.mk' Sf14_c6 (Vf14_c6 a0 b105_2) (Bf14_c6 a0 b105_2)) K) (hF : joinK (f14_c6 a0) g = some r) : vc c p nid (.seq a b) st K :=
  vc_cut Sf14_c6 (fun y : (List Label) => Vf14_c6 a0 y) (fun y : (List Label) => Bf14_c6 a0 y) (fun y : (List Label) => f14_c6 a0 y = some r) hz (h hF) fun y hy => h2 y hy
def V2f14_c6 (a0 : Layout) (b105_2 : List Label) (m0 : Nat) : List SV := [.ptr 1 0, .ptr 105 0]
def B2f14_c6 (a0 : Layout) (b105_2 : List Label) (m0 : Nat) : List Blk := [.box [.dat (iN (0 : Int)), .dat (iN (0 : Int)), .nil], .box [.dat (iN a0.W), .dat (iN a0.H), .rs 90500 m0], .row 57 4 (List.map Label.d b105_2)]
theorem Zf14_c6 {K : Ex → St → Prop} {r : Layout} {a0 : Layout} {b105_2 : List Label} {m0 : Nat} {st st' : St} (hF : f14_c6 a0 b105_2 = some r) (h1 : st.norm Sf14_c6 = some st') (h2 : st'.cutOk Sf14_c6.keep Sf14_c6.bs (memB Sf14_c6.bs) = true) (h3 : vals Sf14_c6.keep st'.e = V2f14_c6 a0 b105_2 m0) (h4 : blks Sf14_c6.bs st'.m = B2f14_c6 a0 b105_2 m0) (em0 : m0 = List.length b105_2) :
    Kseq (fun st' => st'.head Sf14_c6 fun v bl => ∃ x, (fun y : (List Label) => f14_c6 a0 y = some r) x ∧ v = (fun y : (List Label) => Vf14_c6 a0 y) x ∧ bl = (fun y : (List Label) => Bf14_c6 a0 y) x) K .normal st := by
  subst em0; exact k_seq (head_in (I := (fun y : (List Label) => f14_c6 a0 y = some r)) (x := (b105_2)) hF h1 h2 h3 h4)
def f14_3b (r3 : Int → (List Label) → Option (Layout)) (a0 : Layout) (k0 : (List Label) → Option (Layout)) (i4 : Int) (b105_2 : List Label) : Option (Layout) :=
 bif decide (i4 < (List.length a0.Labels : Int)) then ((ix a0.Labels i4).bind fun x1 =>
 (app 32 b105_2 [x1]).bind fun x2 =>
 r3 (W (i4 + (1 : Int))) x2)
 else (k0 b105_2)
def f14_3 (a0 : Layout) (k0 : (List Label) → Option (Layout)) : Nat → Int → (List Label) → Option (Layout)
  | 0, _, _ => none
  | n + 1, i4, b105_2 => f14_3b (f14_3 a0 k0 n) a0 k0 i4 b105_2
def Sf14_3 : Ann := ⟨[1, 2, 3, 4], [0, 1, 105, 90500], [(.cell 105 2, 90500, 57, 4)], []⟩
def Vf14_3 (a0 : Layout) (i4 : Int) (b105_2 : List Label) : List SV := [.ptr 0 0, .ptr 1 0, .ptr 105 0, .dat (iN i4)]
def Bf14_3 (a0 : Layout) (i4 : Int) (b105_2 : List Label) : List Blk := [.box [.dat (iN a0.W), .dat (iN a0.H), .dat (sl_Label a0.Labels)], .box [.dat (iN (0 : Int)), .dat (iN (0 : Int)), .nil], .box [.dat (iN a0.W), .dat (iN a0.H), .rs 90500 (List.length b105_2)], .row 57 4 (List.map Label.d b105_2)]
def V2f14_3 (a0 : Layout) (i4 : Int) (b105_2 : List Label) (m0 : Nat) : List SV := [.ptr 0 0, .ptr 1 0, .ptr 105 0, .dat (iN i4)]
def B2f14_3 (a0 : Layout) (i4 : Int) (b105_2 : List Label) (m0 : Nat) : List Blk := [.box [.dat (iN a0.W), .dat (iN a0.H), .dat (sl_Label a0.Labels)], .box [.dat (iN (0 : Int)), .dat (iN (0 : Int)), .nil], .box [.dat (iN a0.W), .dat (iN a0.H), .rs 90500 m0], .row 57 4 (List.map Label.d b105_2)]
theorem Lf14_3 {c : Ctx} {p nid : Nat} {a : Code} {K : Ex → St → Prop} {r : Layout} {a0 : Layout} {k0 : (List Label) → Option (Layout)} {fu : Nat} {i4 : Int} {b105_2 : List Label} {m0 : Nat} {st st' : St} (hz : Sf14_3.ok p = true) (h1 : st.norm Sf14_3 = some st') (h2 : st'.cutOk Sf14_3.keep Sf14_3.bs (memB Sf14_3.bs) = true) (h3 : vals Sf14_3.keep st'.e = V2f14_3 a0 i4 b105_2 m0) (h4 : blks Sf14_3.bs st'.m = B2f14_3 a0 i4 b105_2 m0) (em0 : m0 = List.length b105_2)
    (h : ∀ (n : Nat) (i4 : Int) (b105_2 : List Label), f14_3b (f14_3 a0 k0 n) a0 k0 i4 b105_2 = some r → vc c p nid a (St.mk' Sf14_3 (Vf14_3 a0 i4 b105_2) (Bf14_3 a0 i4 b105_2)) (Kloop Sf14_3 (fun y : Nat × Int × (List Label) => Vf14_3 a0 y.2.1 y.2.2) (fun y : Nat × Int × (List Label) => Bf14_3 a0 y.2.1 y.2.2) (fun y : Nat × Int × (List Label) => f14_3 a0 k0 y.1 y.2.1 y.2.2 = some r) (fun y : Nat × Int × (List Label) => y.1) (n + 1, i4, b105_2) K)) (hF : f14_3 a0 k0 fu i4 b105_2 = some r) : vc c p nid (.loop a) st K := by
  subst em0; refine vc_loop Sf14_3 (fun y : Nat × Int × (List Label) => Vf14_3 a0 y.2.1 y.2.2) (fun y : Nat × Int × (List Label) => Bf14_3 a0 y.2.1 y.2.2) (fun y : Nat × Int × (List Label) => f14_3 a0 k0 y.1 y.2.1 y.2.2 = some r) (fun y : Nat × Int × (List Label) => y.1) hz (head_in (x := (fu, i4, b105_2)) hF h1 h2 h3 h4) ?_
  rintro ⟨_ | n, i4, b105_2⟩ hI
  · cases hI
  · exact h n i4 b105_2 hI
theorem Mf14_3 {K : Ex → St → Prop} {r : Layout} {a0 : Layout} {k0 : (List Label) → Option (Layout)} {n : Nat} {i4 : Int} {b105_2 : List Label} {i4_ : Int} {b105_2_ : List Label} {m0 : Nat} {st st' : St} (hF : f14_3 a0 k0 n i4 b105_2 = some r) (h1 : st.norm Sf14_3 = some st') (h2 : st'.cutOk Sf14_3.keep Sf14_3.bs (memB Sf14_3.bs) = true) (h3 : vals Sf14_3.keep st'.e = V2f14_3 a0 i4 b105_2 m0) (h4 : blks Sf14_3.bs st'.m = B2f14_3 a0 i4 b105_2 m0) (em0 : m0 = List.length b105_2) :
    Kloop Sf14_3 (fun y : Nat × Int × (List Label) => Vf14_3 a0 y.2.1 y.2.2) (fun y : Nat × Int × (List Label) => Bf14_3 a0 y.2.1 y.2.2) (fun y : Nat × Int × (List Label) => f14_3 a0 k0 y.1 y.2.1 y.2.2 = some r) (fun y : Nat × Int × (List Label) => y.1) (n + 1, i4_, b105_2_) K .normal st := by
  subst em0; exact head_back (y := (n, i4, b105_2)) hF (Nat.lt_succ_self n) h1 h2 h3 h4
def f14 (N : Nat) (a0 : Layout) : Option (Layout) :=
 joinK (f14_c6 a0) fun k0 =>
 f14_3 a0 k0 N (0 : Int) []
def G14 (ds : List D) (d : D) : Prop := ∃ (N : Nat) (a0 : Layout) (r : Layout), ds = [Layout.d a0] ∧ f14 N a0 = some r ∧ d = Layout.d r
theorem G14.step {N : Nat} {a0 : Layout} {ρ : Type} {A : Layout → Option ρ} {q : ρ} {ds : List D} {K : D → Prop} (hd : ds = [Layout.d a0]) (h : ∀ r, A r = some q → K (Layout.d r)) (hF : (f14 N a0).bind A = some q) : ∃ d, G14 ds d ∧ K d := by
  obtain ⟨r, hr, hA⟩ := bind_some hF
  exact ⟨_, ⟨N, a0, r, hd, hr, rfl⟩, h r hA⟩
set_option maxRecDepth 20000 in
set_option maxHeartbeats 4000000 in
theorem P14 : PureOK Try.prog 14 G14 := by
  refine pure_of_vc (c := mkCtx tyTree []) rfl tyOK (ctx_nil) [[0, 0, 4]] 1 Try.func14 rfl rfl (by decide) (by kernel_rfl) ?_
  rintro ds d ⟨N, a0, r, rfl, hF, rfl⟩ hok
  clear hok
  refine ⟨rfl, ?_⟩
  show vc _ _ _ _ ⟨[(0, .dat (Layout.d a0))], []⟩ _
  unfold f14 at hF
  repeat' (first
    | ((with_reducible refine q0 _ _ ?_); clear Q q0 q1 q2)
    | ((with_reducible refine q1 _ _ _ _ ?_); clear Q q0 q1 q2)
    | ((with_reducible refine q2 _ _ _ ?_); clear Q q0 q1 q2)
    | ((with_reducible refine seq_op ?hx (fun Q q0 q1 q2 => ?_)); (case hx => exact rfl); conv => whnf)
    | ((with_reducible refine draw_op ?hx (fun Q q0 q1 q2 => ?_)); (case hx => exact rfl); conv => whnf)
    | ((with_reducible refine seq_op0 ?hx (fun Q q0 q1 q2 => ?_)); (case hx => exact rfl); conv => whnf)
    | ((with_reducible refine draw_op0 ?hx (fun Q q0 q1 q2 => ?_)); (case hx => exact rfl); conv => whnf)
    | ((with_reducible refine seq_off ?hx ?_); (case hx => exact rfl))
    | ((with_reducible refine seq_off0 ?hx ?_); (case hx => exact rfl))
    | ((with_reducible refine draw_off ?hx ?_); (case hx => exact rfl))
    | ((with_reducible refine draw_off0 ?hx ?_); (case hx => exact rfl))
    | ((with_reducible refine seq_id ?_); (first | ((refine seq_opK rfl ?hy (fun Q q0 q1 q2 => ?_)); (case hy => first | assumption | exact notT (by assumption) | exact rfl); conv => whnf) | ((refine seq_offK rfl ?hy ?_); (case hy => first | assumption | exact notF (by assumption) | exact rfl)) | ((refine seq_opK0 rfl ?hy (fun Q q0 q1 q2 => ?_)); (case hy => first | assumption | exact notT (by assumption) | exact rfl); conv => whnf) | ((refine seq_offK0 rfl ?hy ?_); (case hy => first | assumption | exact notF (by assumption) | exact rfl)) | (revert hF; (with_reducible refine seq_opF ?hx ?_ ?_); (case hx => exact rfl); (intro hc hF Q q0 q1 q2; conv => whnf); rotate_left; (intro hc hF); rotate_right) | (revert hF; (with_reducible refine seq_opN ?hx ?_ ?_); (case hx => exact rfl); (intro hc hF); rotate_left; (intro hc hF Q q0 q1 q2; conv => whnf); rotate_right) | (revert hF; (with_reducible refine seq_opF0 ?hx ?_ ?_); (case hx => exact rfl); (intro hc hF Q q0 q1 q2; conv => whnf); rotate_left; (intro hc hF); rotate_right) | (revert hF; (with_reducible refine seq_opN0 ?hx ?_ ?_); (case hx => exact rfl); (intro hc hF); rotate_left; (intro hc hF Q q0 q1 q2; conv => whnf); rotate_right)))
    | ((with_reducible refine draw_id ?_); (first | ((refine draw_opK rfl ?hy (fun Q q0 q1 q2 => ?_)); (case hy => first | assumption | exact notT (by assumption) | exact rfl); conv => whnf) | ((refine draw_offK rfl ?hy ?_); (case hy => first | assumption | exact notF (by assumption) | exact rfl)) | ((refine draw_opK0 rfl ?hy (fun Q q0 q1 q2 => ?_)); (case hy => first | assumption | exact notT (by assumption) | exact rfl); conv => whnf) | ((refine draw_offK0 rfl ?hy ?_); (case hy => first | assumption | exact notF (by assumption) | exact rfl)) | (revert hF; (with_reducible refine draw_opF ?hx ?_ ?_); (case hx => exact rfl); (intro hc hF Q q0 q1 q2; conv => whnf); rotate_left; (intro hc hF); rotate_right) | (revert hF; (with_reducible refine draw_opN ?hx ?_ ?_); (case hx => exact rfl); (intro hc hF); rotate_left; (intro hc hF Q q0 q1 q2; conv => whnf); rotate_right) | (revert hF; (with_reducible refine draw_opF0 ?hx ?_ ?_); (case hx => exact rfl); (intro hc hF Q q0 q1 q2; conv => whnf); rotate_left; (intro hc hF); rotate_right) | (revert hF; (with_reducible refine draw_opN0 ?hx ?_ ?_); (case hx => exact rfl); (intro hc hF); rotate_left; (intro hc hF Q q0 q1 q2; conv => whnf); rotate_right)))
    | ((with_reducible refine cond_id ?_); (first | ((refine condKT rfl ?hy ?_); (case hy => first | assumption | exact notT (by assumption) | exact rfl)) | ((refine condKF rfl ?hy ?_); (case hy => first | assumption | exact notF (by assumption) | exact rfl)) | (revert hF; (with_reducible refine condF ?hx ?_ ?_); (case hx => exact rfl); all_goals (intro hc hF))))
    | ((with_reducible refine seq_nil ?_); (first | ((with_reducible refine hR _ ?_); clear R hR) | ((with_reducible refine hL _ ?_); clear L hL)))
    | ((with_reducible refine draw_nil ?_); (with_reducible refine hR _ _ ?hx ?_); (case hx => kernel_rfl); (first | clear R hR | clear hR))
    | ((with_reducible refine int_step ?_); conv => whnf)
    | ((with_reducible refine len_step ?_); conv => whnf)
    | ((with_reducible refine idx2 (by assumption) ?_); conv => whnf)
    | ((with_reducible refine idx3 (by assumption) ?_); conv => whnf)
    | with_reducible refine vc_block ?_
    | with_reducible refine vc_skip ?_
    | with_reducible refine vc_ret ?_
    | with_reducible refine vc_exit ?_
    | ((with_reducible refine vc_seqN [6] ?hx ?_); (case hx => exact rfl))
    | (with_reducible refine vc_region (fun R hR => ?_))
    | ((with_reducible refine vc_draw ?hx (fun R hR => ?_)); (case hx => exact rfl))
    | fail
    | (revert hF; (refine Cf14_c6 rfl rfl ?_ ?_); (intro hF); rotate_left; (intro b105_2 hF; unfold f14_c6 at hF); rotate_right)
    | exact Zf14_c6 hF rfl rfl rfl rfl (by first | exact rfl | assumption | omega)
    | (revert hF; (refine Lf14_3 rfl rfl rfl rfl rfl (by first | exact rfl | assumption | omega) ?_); intro n i4 b105_2 hF; unfold f14_3b at hF)
    | exact Mf14_3 hF rfl rfl rfl rfl (by first | exact rfl | assumption | omega)
    | with_reducible refine k_seq_ret ?_
    | with_reducible refine k_seq_exit ?_
    | with_reducible refine k_blk ?_
    | with_reducible refine k_blk_ret ?_
    | with_reducible refine k_blk_here ?_
    | ((with_reducible refine k_blk_out ?hx ?_); (case hx => exact rfl))
    | with_reducible refine k_loop_ret ?_
    | with_reducible refine k_loop_exit ?_
    | (revert hF; (with_reducible refine idx1 ?hn ?_); (case hn => first | exact rfl | exact (List.length_map _) | assumption | omega | simp); intro x hx hF; conv => whnf)
    | ((with_reducible have hG := sub_fact hF); clear hF; (first | (refine sub_step hG (fun q hF => ?_)) | (refine subrow_step hG ?hn (fun q hF => ?_); (case hn => first | exact rfl | assumption | omega))); clear hG; conv => whnf)
    | ((with_reducible have hG := app_fact hF); clear hF; (first | ((refine app_row hG ?hn ?hs (fun q hF => ?_)); (case hn => first | exact rfl | assumption | omega); (case hs => exact rfl)) | ((refine app_nil (d := Label.d) hG ?hs (fun q hF => ?_)); (case hs => exact rfl)) | ((refine app_gen (d := Label.d) hG ?ho ?hn ?hs (fun q hF => ?_)); (case ho => exact rfl); (case hn => exact rfl); (case hs => exact rfl))); clear hG; conv => whnf)
    | ((refine row_all ?hn ?_); (case hn => first | exact rfl | (simp; done) | (simp; omega)); conv => whnf)
    | ((with_reducible refine le_step ?hn ?_); (case hn => first | exact rfl | assumption | omega); conv => whnf)
    | ((with_reducible have hG := setx_fact hF); clear hF; (refine setx_step hG ?hs (fun q hl hF => ?_)); (case hs => exact rfl); clear hG; conv => whnf)
    | (revert hF; (with_reducible refine dem_step ?_ ?_); (intro hl hF; conv => whnf); rotate_left; (intro hF; conv => whnf); rotate_right)
    | ((refine ⟨?hx, ?_⟩); (case hx => exact ⟨rfl, Nat.le_of_ble_eq_true rfl, rfl⟩); conv => whnf)
    | ((with_reducible refine ex_step ?_); conv => whnf)
    | ((with_reducible have hG := chk_fact hF); clear hF; (refine ⟨?hx, ?_⟩); (case hx => (first | exact of_decide_eq_true hG.1 | exact hG.1)); have hF := hG.2; clear hG; conv => whnf)
    | ((with_reducible refine both_T ?hx ?_); (case hx => first | exact rfl | assumption | exact notT (by assumption)); conv => whnf)
    | ((with_reducible refine both_F ?hx ?_); (case hx => first | exact rfl | assumption | exact notF (by assumption)); conv => whnf)
    | (revert hF; (with_reducible refine ite_step ?_ ?_) <;> (intro hc hF; conv => whnf))
    | ((with_reducible refine vc_condT ?hx ?_); (case hx => exact rfl))
    | ((with_reducible refine vc_condF ?hx ?_); (case hx => exact rfl))
    | (show retD _ _ _ _ _ _; conv => whnf)
    | ((refine inl_step ?ha ?hb ?hc rfl ?_); (case ha => exact rfl); (case hb => omega); (case hc => exact Nat.le_of_ble_eq_true rfl))
    | (show Kinl _ _ _ _ _ _ _; conv => whnf)
    | ((with_reducible refine kinl_step ?ha ?hb ?_); (case ha => exact rfl); (case hb => exact rfl); conv => whnf)
    | ((refine ⟨?hx, trivial⟩); (case hx => (cases hF; exact rfl)))
    | ((refine ⟨?hx, ?_⟩); (case hx => decide); conv => whnf)
    | ((with_reducible refine k_seq ?_))
    | (have hF : (none : Option _) = some _ := hF; cases hF))
end Go.Vc
namespace Go.Vc
open Go.Proofs
set_option linter.unusedVariables false
set_option linter.unnecessarySimpa false
set_option linter.unusedSimpArgs false
/- f72: tusche/tuscheref02.Is -/
def f72 (N : Nat) (a0 : Int) (a1 : Int) (a2 : Int) : Option (Bool) :=
 bif decide (a1 ≤ a0) then (some (decide (a0 ≤ a2)))
 else (some (false))
def G72 (ds : List D) (d : D) : Prop := ∃ (N : Nat) (a0 : Int) (a1 : Int) (a2 : Int) (r : Bool), ds = [iN a0, iN a1, iN a2] ∧ f72 N a0 a1 a2 = some r ∧ d = bN r
theorem G72.step {N : Nat} {a0 : Int} {a1 : Int} {a2 : Int} {ρ : Type} {A : Bool → Option ρ} {q : ρ} {ds : List D} {K : D → Prop} (hd : ds = [iN a0, iN a1, iN a2]) (h : ∀ r, A r = some q → K (bN r)) (hF : (f72 N a0 a1 a2).bind A = some q) : ∃ d, G72 ds d ∧ K d := by
  obtain ⟨r, hr, hA⟩ := bind_some hF
  exact ⟨_, ⟨N, a0, a1, a2, r, hd, hr, rfl⟩, h r hA⟩
set_option maxRecDepth 20000 in
set_option maxHeartbeats 4000000 in
theorem P72 : PureOK Try.prog 72 G72 := by
  refine pure_of_vc (c := mkCtx tyTree []) rfl tyOK (ctx_nil) [[0]] 3 Try.func72 rfl rfl (by decide) (by kernel_rfl) ?_
  rintro ds d ⟨N, a0, a1, a2, r, rfl, hF, rfl⟩ hok
  clear hok
  refine ⟨rfl, ?_⟩
  show vc _ _ _ _ ⟨[(0, .dat (iN a0)), (1, .dat (iN a1)), (2, .dat (iN a2))], []⟩ _
  unfold f72 at hF
  repeat' (first
    | ((with_reducible refine q0 _ _ ?_); clear Q q0 q1 q2)
    | ((with_reducible refine q1 _ _ _ _ ?_); clear Q q0 q1 q2)
    | ((with_reducible refine q2 _ _ _ ?_); clear Q q0 q1 q2)
    | ((with_reducible refine seq_op ?hx (fun Q q0 q1 q2 => ?_)); (case hx => exact rfl); conv => whnf)
    | ((with_reducible refine draw_op ?hx (fun Q q0 q1 q2 => ?_)); (case hx => exact rfl); conv => whnf)
    | ((with_reducible refine seq_op0 ?hx (fun Q q0 q1 q2 => ?_)); (case hx => exact rfl); conv => whnf)
    | ((with_reducible refine draw_op0 ?hx (fun Q q0 q1 q2 => ?_)); (case hx => exact rfl); conv => whnf)
    | ((with_reducible refine seq_off ?hx ?_); (case hx => exact rfl))
    | ((with_reducible refine seq_off0 ?hx ?_); (case hx => exact rfl))
    | ((with_reducible refine draw_off ?hx ?_); (case hx => exact rfl))
    | ((with_reducible refine draw_off0 ?hx ?_); (case hx => exact rfl))
    | ((with_reducible refine seq_id ?_); (first | ((refine seq_opK rfl ?hy (fun Q q0 q1 q2 => ?_)); (case hy => first | assumption | exact notT (by assumption) | exact rfl); conv => whnf) | ((refine seq_offK rfl ?hy ?_); (case hy => first | assumption | exact notF (by assumption) | exact rfl)) | ((refine seq_opK0 rfl ?hy (fun Q q0 q1 q2 => ?_)); (case hy => first | assumption | exact notT (by assumption) | exact rfl); conv => whnf) | ((refine seq_offK0 rfl ?hy ?_); (case hy => first | assumption | exact notF (by assumption) | exact rfl)) | (revert hF; (with_reducible refine seq_opF ?hx ?_ ?_); (case hx => exact rfl); (intro hc hF Q q0 q1 q2; conv => whnf); rotate_left; (intro hc hF); rotate_right) | (revert hF; (with_reducible refine seq_opN ?hx ?_ ?_); (case hx => exact rfl); (intro hc hF); rotate_left; (intro hc hF Q q0 q1 q2; conv => whnf); rotate_right) | (revert hF; (with_reducible refine seq_opF0 ?hx ?_ ?_); (case hx => exact rfl); (intro hc hF Q q0 q1 q2; conv => whnf); rotate_left; (intro hc hF); rotate_right) | (revert hF; (with_reducible refine seq_opN0 ?hx ?_ ?_); (case hx => exact rfl); (intro hc hF); rotate_left; (intro hc hF Q q0 q1 q2; conv => whnf); rotate_right)))
    | ((with_reducible refine draw_id ?_); (first | ((refine draw_opK rfl ?hy (fun Q q0 q1 q2 => ?_)); (case hy => first | assumption | exact notT (by assumption) | exact rfl); conv => whnf) | ((refine draw_offK rfl ?hy ?_); (case hy => first | assumption | exact notF (by assumption) | exact rfl)) | ((refine draw_opK0 rfl ?hy (fun Q q0 q1 q2 => ?_)); (case hy => first | assumption | exact notT (by assumption) | exact rfl); conv => whnf) | ((refine draw_offK0 rfl ?hy ?_); (case hy => first | assumption | exact notF (by assumption) | exact rfl)) | (revert hF; (with_reducible refine draw_opF ?hx ?_ ?_); (case hx => exact rfl); (intro hc hF Q q0 q1 q2; conv => whnf); rotate_left; (intro hc hF); rotate_right) | (revert hF; (with_reducible refine draw_opN ?hx ?_ ?_); (case hx => exact rfl); (intro hc hF); rotate_left; (intro hc hF Q q0 q1 q2; conv => whnf); rotate_right) | (revert hF; (with_reducible refine draw_opF0 ?hx ?_ ?_); (case hx => exact rfl); (intro hc hF Q q0 q1 q2; conv => whnf); rotate_left; (intro hc hF); rotate_right) | (revert hF; (with_reducible refine draw_opN0 ?hx ?_ ?_); (case hx => exact rfl); (intro hc hF); rotate_left; (intro hc hF Q q0 q1 q2; conv => whnf); rotate_right)))
    | ((with_reducible refine cond_id ?_); (first | ((refine condKT rfl ?hy ?_); (case hy => first | assumption | exact notT (by assumption) | exact rfl)) | ((refine condKF rfl ?hy ?_); (case hy => first | assumption | exact notF (by assumption) | exact rfl)) | (revert hF; (with_reducible refine condF ?hx ?_ ?_); (case hx => exact rfl); all_goals (intro hc hF))))
    | ((with_reducible refine seq_nil ?_); (first | ((with_reducible refine hR _ ?_); clear R hR) | ((with_reducible refine hL _ ?_); clear L hL)))
    | ((with_reducible refine draw_nil ?_); (with_reducible refine hR _ _ ?hx ?_); (case hx => kernel_rfl); (first | clear R hR | clear hR))
    | ((with_reducible refine int_step ?_); conv => whnf)
    | ((with_reducible refine len_step ?_); conv => whnf)
    | ((with_reducible refine idx2 (by assumption) ?_); conv => whnf)
    | ((with_reducible refine idx3 (by assumption) ?_); conv => whnf)
    | with_reducible refine vc_block ?_
    | with_reducible refine vc_skip ?_
    | with_reducible refine vc_ret ?_
    | with_reducible refine vc_exit ?_
    | ((with_reducible refine vc_seqN [] ?hx ?_); (case hx => exact rfl))
    | (with_reducible refine vc_region (fun R hR => ?_))
    | ((with_reducible refine vc_draw ?hx (fun R hR => ?_)); (case hx => exact rfl))
    | fail
    | with_reducible refine k_seq_ret ?_
    | with_reducible refine k_seq_exit ?_
    | with_reducible refine k_blk ?_
    | with_reducible refine k_blk_ret ?_
    | with_reducible refine k_blk_here ?_
    | ((with_reducible refine k_blk_out ?hx ?_); (case hx => exact rfl))
    | with_reducible refine k_loop_ret ?_
    | with_reducible refine k_loop_exit ?_
    | (revert hF; (with_reducible refine idx1 ?hn ?_); (case hn => first | exact rfl | exact (List.length_map _) | assumption | omega | simp); intro x hx hF; conv => whnf)
    | ((with_reducible have hG := sub_fact hF); clear hF; (first | (refine sub_step hG (fun q hF => ?_)) | (refine subrow_step hG ?hn (fun q hF => ?_); (case hn => first | exact rfl | assumption | omega))); clear hG; conv => whnf)
    | ((with_reducible have hG := app_fact hF); clear hF; (first | ((refine app_row hG ?hn ?hs (fun q hF => ?_)); (case hn => first | exact rfl | assumption | omega); (case hs => exact rfl)) ); clear hG; conv => whnf)
    | ((refine row_all ?hn ?_); (case hn => first | exact rfl | (simp; done) | (simp; omega)); conv => whnf)
    | ((with_reducible refine le_step ?hn ?_); (case hn => first | exact rfl | assumption | omega); conv => whnf)
    | ((with_reducible have hG := setx_fact hF); clear hF; (refine setx_step hG ?hs (fun q hl hF => ?_)); (case hs => exact rfl); clear hG; conv => whnf)
    | (revert hF; (with_reducible refine dem_step ?_ ?_); (intro hl hF; conv => whnf); rotate_left; (intro hF; conv => whnf); rotate_right)
    | ((refine ⟨?hx, ?_⟩); (case hx => exact ⟨rfl, Nat.le_of_ble_eq_true rfl, rfl⟩); conv => whnf)
    | ((with_reducible refine ex_step ?_); conv => whnf)
    | ((with_reducible have hG := chk_fact hF); clear hF; (refine ⟨?hx, ?_⟩); (case hx => (first | exact of_decide_eq_true hG.1 | exact hG.1)); have hF := hG.2; clear hG; conv => whnf)
    | ((with_reducible refine both_T ?hx ?_); (case hx => first | exact rfl | assumption | exact notT (by assumption)); conv => whnf)
    | ((with_reducible refine both_F ?hx ?_); (case hx => first | exact rfl | assumption | exact notF (by assumption)); conv => whnf)
    | (revert hF; (with_reducible refine ite_step ?_ ?_) <;> (intro hc hF; conv => whnf))
    | ((with_reducible refine vc_condT ?hx ?_); (case hx => exact rfl))
    | ((with_reducible refine vc_condF ?hx ?_); (case hx => exact rfl))
    | (show retD _ _ _ _ _ _; conv => whnf)
    | ((refine inl_step ?ha ?hb ?hc rfl ?_); (case ha => exact rfl); (case hb => omega); (case hc => exact Nat.le_of_ble_eq_true rfl))
    | (show Kinl _ _ _ _ _ _ _; conv => whnf)
    | ((with_reducible refine kinl_step ?ha ?hb ?_); (case ha => exact rfl); (case hb => exact rfl); conv => whnf)
    | ((refine ⟨?hx, trivial⟩); (case hx => (cases hF; exact rfl)))
    | ((refine ⟨?hx, ?_⟩); (case hx => decide); conv => whnf)
    | ((with_reducible refine k_seq ?_))
    | (have hF : (none : Option _) = some _ := hF; cases hF))
end Go.Vc
namespace Go.Vc
open Go.Proofs
set_option linter.unusedVariables false
set_option linter.unnecessarySimpa false
set_option linter.unusedSimpArgs false
/- f56: tusche/tuscheref06.is -/
def f56 (N : Nat) (a0 : Int) (a1 : Int) (a2 : Int) : Option (Bool) :=
 (f72 N a0 a1 a2).bind fun x1 =>
 some (x1)
def G56 (ds : List D) (d : D) : Prop := ∃ (N : Nat) (a0 : Int) (a1 : Int) (a2 : Int) (r : Bool), ds = [iN a0, iN a1, iN a2] ∧ f56 N a0 a1 a2 = some r ∧ d = bN r
theorem G56.step {N : Nat} {a0 : Int} {a1 : Int} {a2 : Int} {ρ : Type} {A : Bool → Option ρ} {q : ρ} {ds : List D} {K : D → Prop} (hd : ds = [iN a0, iN a1, iN a2]) (h : ∀ r, A r = some q → K (bN r)) (hF : (f56 N a0 a1 a2).bind A = some q) : ∃ d, G56 ds d ∧ K d := by
  obtain ⟨r, hr, hA⟩ := bind_some hF
  exact ⟨_, ⟨N, a0, a1, a2, r, hd, hr, rfl⟩, h r hA⟩
set_option maxRecDepth 20000 in
set_option maxHeartbeats 4000000 in
theorem P56 : PureOK Try.prog 56 G56 := by
  refine pure_of_vc (c := mkCtx tyTree [(72, true, purePg [[0], [0], [0]] G72)]) rfl tyOK (ctx_cons (callable Try.func72 rfl rfl) P72 (ctx_nil)) [[0]] 3 Try.func56 rfl rfl (by decide) (by kernel_rfl) ?_
  rintro ds d ⟨N, a0, a1, a2, r, rfl, hF, rfl⟩ hok
  clear hok
  refine ⟨rfl, ?_⟩
  show vc _ _ _ _ ⟨[(0, .dat (iN a0)), (1, .dat (iN a1)), (2, .dat (iN a2))], []⟩ _
  unfold f56 at hF
  repeat' (first
    | ((with_reducible refine q0 _ _ ?_); clear Q q0 q1 q2)
    | ((with_reducible refine q1 _ _ _ _ ?_); clear Q q0 q1 q2)
    | ((with_reducible refine q2 _ _ _ ?_); clear Q q0 q1 q2)
    | ((with_reducible refine seq_op ?hx (fun Q q0 q1 q2 => ?_)); (case hx => exact rfl); conv => whnf)
    | ((with_reducible refine draw_op ?hx (fun Q q0 q1 q2 => ?_)); (case hx => exact rfl); conv => whnf)
    | ((with_reducible refine seq_op0 ?hx (fun Q q0 q1 q2 => ?_)); (case hx => exact rfl); conv => whnf)
    | ((with_reducible refine draw_op0 ?hx (fun Q q0 q1 q2 => ?_)); (case hx => exact rfl); conv => whnf)
    | ((with_reducible refine seq_off ?hx ?_); (case hx => exact rfl))
    | ((with_reducible refine seq_off0 ?hx ?_); (case hx => exact rfl))
    | ((with_reducible refine draw_off ?hx ?_); (case hx => exact rfl))
    | ((with_reducible refine draw_off0 ?hx ?_); (case hx => exact rfl))
    | ((with_reducible refine seq_id ?_); (first | ((refine seq_opK rfl ?hy (fun Q q0 q1 q2 => ?_)); (case hy => first | assumption | exact notT (by assumption) | exact rfl); conv => whnf) | ((refine seq_offK rfl ?hy ?_); (case hy => first | assumption | exact notF (by assumption) | exact rfl)) | ((refine seq_opK0 rfl ?hy (fun Q q0 q1 q2 => ?_)); (case hy => first | assumption | exact notT (by assumption) | exact rfl); conv => whnf) | ((refine seq_offK0 rfl ?hy ?_); (case hy => first | assumption | exact notF (by assumption) | exact rfl)) | (revert hF; (with_reducible refine seq_opF ?hx ?_ ?_); (case hx => exact rfl); (intro hc hF Q q0 q1 q2; conv => whnf); rotate_left; (intro hc hF); rotate_right) | (revert hF; (with_reducible refine seq_opN ?hx ?_ ?_); (case hx => exact rfl); (intro hc hF); rotate_left; (intro hc hF Q q0 q1 q2; conv => whnf); rotate_right) | (revert hF; (with_reducible refine seq_opF0 ?hx ?_ ?_); (case hx => exact rfl); (intro hc hF Q q0 q1 q2; conv => whnf); rotate_left; (intro hc hF); rotate_right) | (revert hF; (with_reducible refine seq_opN0 ?hx ?_ ?_); (case hx => exact rfl); (intro hc hF); rotate_left; (intro hc hF Q q0 q1 q2; conv => whnf); rotate_right)))
    | ((with_reducible refine draw_id ?_); (first | ((refine draw_opK rfl ?hy (fun Q q0 q1 q2 => ?_)); (case hy => first | assumption | exact notT (by assumption) | exact rfl); conv => whnf) | ((refine draw_offK rfl ?hy ?_); (case hy => first | assumption | exact notF (by assumption) | exact rfl)) | ((refine draw_opK0 rfl ?hy (fun Q q0 q1 q2 => ?_)); (case hy => first | assumption | exact notT (by assumption) | exact rfl); conv => whnf) | ((refine draw_offK0 rfl ?hy ?_); (case hy => first | assumption | exact notF (by assumption) | exact rfl)) | (revert hF; (with_reducible refine draw_opF ?hx ?_ ?_); (case hx => exact rfl); (intro hc hF Q q0 q1 q2; conv => whnf); rotate_left; (intro hc hF); rotate_right) | (revert hF; (with_reducible refine draw_opN ?hx ?_ ?_); (case hx => exact rfl); (intro hc hF); rotate_left; (intro hc hF Q q0 q1 q2; conv => whnf); rotate_right) | (revert hF; (with_reducible refine draw_opF0 ?hx ?_ ?_); (case hx => exact rfl); (intro hc hF Q q0 q1 q2; conv => whnf); rotate_left; (intro hc hF); rotate_right) | (revert hF; (with_reducible refine draw_opN0 ?hx ?_ ?_); (case hx => exact rfl); (intro hc hF); rotate_left; (intro hc hF Q q0 q1 q2; conv => whnf); rotate_right)))
    | ((with_reducible refine cond_id ?_); (first | ((refine condKT rfl ?hy ?_); (case hy => first | assumption | exact notT (by assumption) | exact rfl)) | ((refine condKF rfl ?hy ?_); (case hy => first | assumption | exact notF (by assumption) | exact rfl)) | (revert hF; (with_reducible refine condF ?hx ?_ ?_); (case hx => exact rfl); all_goals (intro hc hF))))
    | ((with_reducible refine seq_nil ?_); (first | ((with_reducible refine hR _ ?_); clear R hR) | ((with_reducible refine hL _ ?_); clear L hL)))
    | ((with_reducible refine draw_nil ?_); (with_reducible refine hR _ _ ?hx ?_); (case hx => kernel_rfl); (first | clear R hR | clear hR))
    | ((with_reducible refine int_step ?_); conv => whnf)
    | ((with_reducible refine len_step ?_); conv => whnf)
    | ((with_reducible refine idx2 (by assumption) ?_); conv => whnf)
    | ((with_reducible refine idx3 (by assumption) ?_); conv => whnf)
    | with_reducible refine vc_block ?_
    | with_reducible refine vc_skip ?_
    | with_reducible refine vc_ret ?_
    | with_reducible refine vc_exit ?_
    | ((with_reducible refine vc_seqN [] ?hx ?_); (case hx => exact rfl))
    | (with_reducible refine vc_region (fun R hR => ?_))
    | ((with_reducible refine vc_draw ?hx (fun R hR => ?_)); (case hx => exact rfl))
    | fail
    | (revert hF; (with_reducible refine G72.step ?hx ?_); (case hx => exact rfl); intro v hF; conv => whnf)
    | with_reducible refine k_seq_ret ?_
    | with_reducible refine k_seq_exit ?_
    | with_reducible refine k_blk ?_
    | with_reducible refine k_blk_ret ?_
    | with_reducible refine k_blk_here ?_
    | ((with_reducible refine k_blk_out ?hx ?_); (case hx => exact rfl))
    | with_reducible refine k_loop_ret ?_
    | with_reducible refine k_loop_exit ?_
    | (revert hF; (with_reducible refine idx1 ?hn ?_); (case hn => first | exact rfl | exact (List.length_map _) | assumption | omega | simp); intro x hx hF; conv => whnf)
    | ((with_reducible have hG := sub_fact hF); clear hF; (first | (refine sub_step hG (fun q hF => ?_)) | (refine subrow_step hG ?hn (fun q hF => ?_); (case hn => first | exact rfl | assumption | omega))); clear hG; conv => whnf)
    | ((with_reducible have hG := app_fact hF); clear hF; (first | ((refine app_row hG ?hn ?hs (fun q hF => ?_)); (case hn => first | exact rfl | assumption | omega); (case hs => exact rfl)) ); clear hG; conv => whnf)
    | ((refine row_all ?hn ?_); (case hn => first | exact rfl | (simp; done) | (simp; omega)); conv => whnf)
    | ((with_reducible refine le_step ?hn ?_); (case hn => first | exact rfl | assumption | omega); conv => whnf)
    | ((with_reducible have hG := setx_fact hF); clear hF; (refine setx_step hG ?hs (fun q hl hF => ?_)); (case hs => exact rfl); clear hG; conv => whnf)
    | (revert hF; (with_reducible refine dem_step ?_ ?_); (intro hl hF; conv => whnf); rotate_left; (intro hF; conv => whnf); rotate_right)
    | ((refine ⟨?hx, ?_⟩); (case hx => exact ⟨rfl, Nat.le_of_ble_eq_true rfl, rfl⟩); conv => whnf)
    | ((with_reducible refine ex_step ?_); conv => whnf)
    | ((with_reducible have hG := chk_fact hF); clear hF; (refine ⟨?hx, ?_⟩); (case hx => (first | exact of_decide_eq_true hG.1 | exact hG.1)); have hF := hG.2; clear hG; conv => whnf)
    | ((with_reducible refine both_T ?hx ?_); (case hx => first | exact rfl | assumption | exact notT (by assumption)); conv => whnf)
    | ((with_reducible refine both_F ?hx ?_); (case hx => first | exact rfl | assumption | exact notF (by assumption)); conv => whnf)
    | (revert hF; (with_reducible refine ite_step ?_ ?_) <;> (intro hc hF; conv => whnf))
    | ((with_reducible refine vc_condT ?hx ?_); (case hx => exact rfl))
    | ((with_reducible refine vc_condF ?hx ?_); (case hx => exact rfl))
    | (show retD _ _ _ _ _ _; conv => whnf)
    | ((refine inl_step ?ha ?hb ?hc rfl ?_); (case ha => exact rfl); (case hb => omega); (case hc => exact Nat.le_of_ble_eq_true rfl))
    | (show Kinl _ _ _ _ _ _ _; conv => whnf)
    | ((with_reducible refine kinl_step ?ha ?hb ?_); (case ha => exact rfl); (case hb => exact rfl); conv => whnf)
    | ((refine ⟨?hx, trivial⟩); (case hx => (cases hF; exact rfl)))
    | ((refine ⟨?hx, ?_⟩); (case hx => decide); conv => whnf)
    | ((with_reducible refine k_seq ?_))
    | (have hF : (none : Option _) = some _ := hF; cases hF))
end Go.Vc
namespace Go.Vc
open Go.Proofs
set_option linter.unusedVariables false
set_option linter.unnecessarySimpa false
set_option linter.unusedSimpArgs false
/- f57: tusche/tuscheref06.meet -/
def f57 (N : Nat) (a0 : Label) (a1 : Label) : Option (Bool) :=
 bif decide (a0.X < (W (a1.X + a1.W))) then (bif decide (a1.X < (W (a0.X + a0.W))) then (bif decide (a0.Y < (W (a1.Y + a1.H))) then (some (decide (a1.Y < (W (a0.Y + a0.H)))))
 else (some (false)))
 else (some (false)))
 else (some (false))
def G57 (ds : List D) (d : D) : Prop := ∃ (N : Nat) (a0 : Label) (a1 : Label) (r : Bool), ds = [Label.d a0, Label.d a1] ∧ f57 N a0 a1 = some r ∧ d = bN r
theorem G57.step {N : Nat} {a0 : Label} {a1 : Label} {ρ : Type} {A : Bool → Option ρ} {q : ρ} {ds : List D} {K : D → Prop} (hd : ds = [Label.d a0, Label.d a1]) (h : ∀ r, A r = some q → K (bN r)) (hF : (f57 N a0 a1).bind A = some q) : ∃ d, G57 ds d ∧ K d := by
  obtain ⟨r, hr, hA⟩ := bind_some hF
  exact ⟨_, ⟨N, a0, a1, r, hd, hr, rfl⟩, h r hA⟩
set_option maxRecDepth 20000 in
set_option maxHeartbeats 4000000 in
theorem P57 : PureOK Try.prog 57 G57 := by
  refine pure_of_vc (c := mkCtx tyTree []) rfl tyOK (ctx_nil) [[0]] 2 Try.func57 rfl rfl (by decide) (by kernel_rfl) ?_
  rintro ds d ⟨N, a0, a1, r, rfl, hF, rfl⟩ hok
  clear hok
  refine ⟨rfl, ?_⟩
  show vc _ _ _ _ ⟨[(0, .dat (Label.d a0)), (1, .dat (Label.d a1))], []⟩ _
  unfold f57 at hF
  repeat' (first
    | ((with_reducible refine q0 _ _ ?_); clear Q q0 q1 q2)
    | ((with_reducible refine q1 _ _ _ _ ?_); clear Q q0 q1 q2)
    | ((with_reducible refine q2 _ _ _ ?_); clear Q q0 q1 q2)
    | ((with_reducible refine seq_op ?hx (fun Q q0 q1 q2 => ?_)); (case hx => exact rfl); conv => whnf)
    | ((with_reducible refine draw_op ?hx (fun Q q0 q1 q2 => ?_)); (case hx => exact rfl); conv => whnf)
    | ((with_reducible refine seq_op0 ?hx (fun Q q0 q1 q2 => ?_)); (case hx => exact rfl); conv => whnf)
    | ((with_reducible refine draw_op0 ?hx (fun Q q0 q1 q2 => ?_)); (case hx => exact rfl); conv => whnf)
    | ((with_reducible refine seq_off ?hx ?_); (case hx => exact rfl))
    | ((with_reducible refine seq_off0 ?hx ?_); (case hx => exact rfl))
    | ((with_reducible refine draw_off ?hx ?_); (case hx => exact rfl))
    | ((with_reducible refine draw_off0 ?hx ?_); (case hx => exact rfl))
    | ((with_reducible refine seq_id ?_); (first | ((refine seq_opK rfl ?hy (fun Q q0 q1 q2 => ?_)); (case hy => first | assumption | exact notT (by assumption) | exact rfl); conv => whnf) | ((refine seq_offK rfl ?hy ?_); (case hy => first | assumption | exact notF (by assumption) | exact rfl)) | ((refine seq_opK0 rfl ?hy (fun Q q0 q1 q2 => ?_)); (case hy => first | assumption | exact notT (by assumption) | exact rfl); conv => whnf) | ((refine seq_offK0 rfl ?hy ?_); (case hy => first | assumption | exact notF (by assumption) | exact rfl)) | (revert hF; (with_reducible refine seq_opF ?hx ?_ ?_); (case hx => exact rfl); (intro hc hF Q q0 q1 q2; conv => whnf); rotate_left; (intro hc hF); rotate_right) | (revert hF; (with_reducible refine seq_opN ?hx ?_ ?_); (case hx => exact rfl); (intro hc hF); rotate_left; (intro hc hF Q q0 q1 q2; conv => whnf); rotate_right) | (revert hF; (with_reducible refine seq_opF0 ?hx ?_ ?_); (case hx => exact rfl); (intro hc hF Q q0 q1 q2; conv => whnf); rotate_left; (intro hc hF); rotate_right) | (revert hF; (with_reducible refine seq_opN0 ?hx ?_ ?_); (case hx => exact rfl); (intro hc hF); rotate_left; (intro hc hF Q q0 q1 q2; conv => whnf); rotate_right)))
    | ((with_reducible refine draw_id ?_); (first | ((refine draw_opK rfl ?hy (fun Q q0 q1 q2 => ?_)); (case hy => first | assumption | exact notT (by assumption) | exact rfl); conv => whnf) | ((refine draw_offK rfl ?hy ?_); (case hy => first | assumption | exact notF (by assumption) | exact rfl)) | ((refine draw_opK0 rfl ?hy (fun Q q0 q1 q2 => ?_)); (case hy => first | assumption | exact notT (by assumption) | exact rfl); conv => whnf) | ((refine draw_offK0 rfl ?hy ?_); (case hy => first | assumption | exact notF (by assumption) | exact rfl)) | (revert hF; (with_reducible refine draw_opF ?hx ?_ ?_); (case hx => exact rfl); (intro hc hF Q q0 q1 q2; conv => whnf); rotate_left; (intro hc hF); rotate_right) | (revert hF; (with_reducible refine draw_opN ?hx ?_ ?_); (case hx => exact rfl); (intro hc hF); rotate_left; (intro hc hF Q q0 q1 q2; conv => whnf); rotate_right) | (revert hF; (with_reducible refine draw_opF0 ?hx ?_ ?_); (case hx => exact rfl); (intro hc hF Q q0 q1 q2; conv => whnf); rotate_left; (intro hc hF); rotate_right) | (revert hF; (with_reducible refine draw_opN0 ?hx ?_ ?_); (case hx => exact rfl); (intro hc hF); rotate_left; (intro hc hF Q q0 q1 q2; conv => whnf); rotate_right)))
    | ((with_reducible refine cond_id ?_); (first | ((refine condKT rfl ?hy ?_); (case hy => first | assumption | exact notT (by assumption) | exact rfl)) | ((refine condKF rfl ?hy ?_); (case hy => first | assumption | exact notF (by assumption) | exact rfl)) | (revert hF; (with_reducible refine condF ?hx ?_ ?_); (case hx => exact rfl); all_goals (intro hc hF))))
    | ((with_reducible refine seq_nil ?_); (first | ((with_reducible refine hR _ ?_); clear R hR) | ((with_reducible refine hL _ ?_); clear L hL)))
    | ((with_reducible refine draw_nil ?_); (with_reducible refine hR _ _ ?hx ?_); (case hx => kernel_rfl); (first | clear R hR | clear hR))
    | ((with_reducible refine int_step ?_); conv => whnf)
    | ((with_reducible refine len_step ?_); conv => whnf)
    | ((with_reducible refine idx2 (by assumption) ?_); conv => whnf)
    | ((with_reducible refine idx3 (by assumption) ?_); conv => whnf)
    | with_reducible refine vc_block ?_
    | with_reducible refine vc_skip ?_
    | with_reducible refine vc_ret ?_
    | with_reducible refine vc_exit ?_
    | ((with_reducible refine vc_seqN [] ?hx ?_); (case hx => exact rfl))
    | (with_reducible refine vc_region (fun R hR => ?_))
    | ((with_reducible refine vc_draw ?hx (fun R hR => ?_)); (case hx => exact rfl))
    | fail
    | with_reducible refine k_seq_ret ?_
    | with_reducible refine k_seq_exit ?_
    | with_reducible refine k_blk ?_
    | with_reducible refine k_blk_ret ?_
    | with_reducible refine k_blk_here ?_
    | ((with_reducible refine k_blk_out ?hx ?_); (case hx => exact rfl))
    | with_reducible refine k_loop_ret ?_
    | with_reducible refine k_loop_exit ?_
    | (revert hF; (with_reducible refine idx1 ?hn ?_); (case hn => first | exact rfl | exact (List.length_map _) | assumption | omega | simp); intro x hx hF; conv => whnf)
    | ((with_reducible have hG := sub_fact hF); clear hF; (first | (refine sub_step hG (fun q hF => ?_)) | (refine subrow_step hG ?hn (fun q hF => ?_); (case hn => first | exact rfl | assumption | omega))); clear hG; conv => whnf)
    | ((with_reducible have hG := app_fact hF); clear hF; (first | ((refine app_row hG ?hn ?hs (fun q hF => ?_)); (case hn => first | exact rfl | assumption | omega); (case hs => exact rfl)) ); clear hG; conv => whnf)
    | ((refine row_all ?hn ?_); (case hn => first | exact rfl | (simp; done) | (simp; omega)); conv => whnf)
    | ((with_reducible refine le_step ?hn ?_); (case hn => first | exact rfl | assumption | omega); conv => whnf)
    | ((with_reducible have hG := setx_fact hF); clear hF; (refine setx_step hG ?hs (fun q hl hF => ?_)); (case hs => exact rfl); clear hG; conv => whnf)
    | (revert hF; (with_reducible refine dem_step ?_ ?_); (intro hl hF; conv => whnf); rotate_left; (intro hF; conv => whnf); rotate_right)
    | ((refine ⟨?hx, ?_⟩); (case hx => exact ⟨rfl, Nat.le_of_ble_eq_true rfl, rfl⟩); conv => whnf)
    | ((with_reducible refine ex_step ?_); conv => whnf)
    | ((with_reducible have hG := chk_fact hF); clear hF; (refine ⟨?hx, ?_⟩); (case hx => (first | exact of_decide_eq_true hG.1 | exact hG.1)); have hF := hG.2; clear hG; conv => whnf)
    | ((with_reducible refine both_T ?hx ?_); (case hx => first | exact rfl | assumption | exact notT (by assumption)); conv => whnf)
    | ((with_reducible refine both_F ?hx ?_); (case hx => first | exact rfl | assumption | exact notF (by assumption)); conv => whnf)
    | (revert hF; (with_reducible refine ite_step ?_ ?_) <;> (intro hc hF; conv => whnf))
    | ((with_reducible refine vc_condT ?hx ?_); (case hx => exact rfl))
    | ((with_reducible refine vc_condF ?hx ?_); (case hx => exact rfl))
    | (show retD _ _ _ _ _ _; conv => whnf)
    | ((refine inl_step ?ha ?hb ?hc rfl ?_); (case ha => exact rfl); (case hb => omega); (case hc => exact Nat.le_of_ble_eq_true rfl))
    | (show Kinl _ _ _ _ _ _ _; conv => whnf)
    | ((with_reducible refine kinl_step ?ha ?hb ?_); (case ha => exact rfl); (case hb => exact rfl); conv => whnf)
    | ((refine ⟨?hx, trivial⟩); (case hx => (cases hF; exact rfl)))
    | ((refine ⟨?hx, ?_⟩); (case hx => decide); conv => whnf)
    | ((with_reducible refine k_seq ?_))
    | (have hF : (none : Option _) = some _ := hF; cases hF))
end Go.Vc
namespace Go.Vc
open Go.Proofs
set_option linter.unusedVariables false
set_option linter.unnecessarySimpa false
set_option linter.unusedSimpArgs false
/- f21: tusche/tuscheref06.Check -/
def f21_c21 : Option (Int) :=
 some ((0 : Int))
def Sf21_c21 : Ann := ⟨[], [], [], []⟩
def Vf21_c21 : List SV := []
def Bf21_c21 : List Blk := []
theorem Cf21_c21 {c : Ctx} {p nid : Nat} {a b : Code} {st : St} {K : Ex → St → Prop} {r : Int} {g : _ → Option (Int)} (hn : Nat.beq (nid * 1000 + firstRegion b) 21 = true) (hz : Sf21_c21.ok p = true)
    (h : g f21_c21 = some r → vc c p nid a st (Kseq (fun st' => st'.head Sf21_c21 fun v bl => ∃ x, (fun y : Unit => f21_c21   = some r) x ∧ v = (fun y : Unit => Vf21_c21  ) x ∧ bl = (fun y : Unit => Bf21_c21  ) x) K))
    (h2 : ∀ (_ : Unit), f21_c21   = some r → vc c p nid b (St.mk' Sf21_c21 (Vf21_c21  ) (Bf21_c21  )) K) (hF : joinK f21_c21 g = some r) : vc c p nid (.seq a b) st K :=
  vc_cut Sf21_c21 (fun y : Unit => Vf21_c21  ) (fun y : Unit => Bf21_c21  ) (fun y : Unit => f21_c21   = some r) hz (h hF) fun y hy => h2 () hy
theorem Zf21_c21 {K : Ex → St → Prop} {r : Int} {st st' : St} (hF : f21_c21   = some r) (h1 : st.norm Sf21_c21 = some st') (h2 : st'.cutOk Sf21_c21.keep Sf21_c21.bs (memB Sf21_c21.bs) = true) (h3 : vals Sf21_c21.keep st'.e = Vf21_c21  ) (h4 : blks Sf21_c21.bs st'.m = Bf21_c21  ) :
    Kseq (fun st' => st'.head Sf21_c21 fun v bl => ∃ x, (fun y : Unit => f21_c21   = some r) x ∧ v = (fun y : Unit => Vf21_c21  ) x ∧ bl = (fun y : Unit => Bf21_c21  ) x) K .normal st := by
  exact k_seq (head_in (I := (fun y : Unit => f21_c21   = some r)) (x := ()) hF h1 h2 h3 h4)
def f21_c15 (a0 : Layout) (v5 : Int) (r14 : Int → Option (Int)) : Option (Int) :=
 r14 (W (v5 + (1 : Int)))
def Sf21_c15 : Ann := ⟨[1, 5], [0], [], []⟩
def Vf21_c15 (a0 : Layout) (v5 : Int) : List SV := [.ptr 0 0, .dat (iN v5)]
def Bf21_c15 (a0 : Layout) (v5 : Int) : List Blk := [.box [.dat (iN a0.W), .dat (iN a0.H), .dat (sl_Label a0.Labels)]]
theorem Cf21_c15 {c : Ctx} {p nid : Nat} {a b : Code} {st : St} {K : Ex → St → Prop} {r : Int} {a0 : Layout} {v5 : Int} {r14 : Int → Option (Int)} {g : _ → Option (Int)} (hn : Nat.beq (nid * 1000 + firstRegion b) 15 = true) (hz : Sf21_c15.ok p = true)
    (h : g (f21_c15 a0 v5 r14) = some r → vc c p nid a st (Kseq (fun st' => st'.head Sf21_c15 fun v bl => ∃ x, (fun y : Unit => f21_c15 a0 v5 r14  = some r) x ∧ v = (fun y : Unit => Vf21_c15 a0 v5 ) x ∧ bl = (fun y : Unit => Bf21_c15 a0 v5 ) x) K))
    (h2 : ∀ (_ : Unit), f21_c15 a0 v5 r14  = some r → vc c p nid b (St.mk' Sf21_c15 (Vf21_c15 a0 v5 ) (Bf21_c15 a0 v5 )) K) (hF : joinK (f21_c15 a0 v5 r14) g = some r) : vc c p nid (.seq a b) st K :=
  vc_cut Sf21_c15 (fun y : Unit => Vf21_c15 a0 v5 ) (fun y : Unit => Bf21_c15 a0 v5 ) (fun y : Unit => f21_c15 a0 v5 r14  = some r) hz (h hF) fun y hy => h2 () hy
theorem Zf21_c15 {K : Ex → St → Prop} {r : Int} {a0 : Layout} {v5 : Int} {r14 : Int → Option (Int)} {st st' : St} (hF : f21_c15 a0 v5 r14  = some r) (h1 : st.norm Sf21_c15 = some st') (h2 : st'.cutOk Sf21_c15.keep Sf21_c15.bs (memB Sf21_c15.bs) = true) (h3 : vals Sf21_c15.keep st'.e = Vf21_c15 a0 v5 ) (h4 : blks Sf21_c15.bs st'.m = Bf21_c15 a0 v5 ) :
    Kseq (fun st' => st'.head Sf21_c15 fun v bl => ∃ x, (fun y : Unit => f21_c15 a0 v5 r14  = some r) x ∧ v = (fun y : Unit => Vf21_c15 a0 v5 ) x ∧ bl = (fun y : Unit => Bf21_c15 a0 v5 ) x) K .normal st := by
  exact k_seq (head_in (I := (fun y : Unit => f21_c15 a0 v5 r14  = some r)) (x := ()) hF h1 h2 h3 h4)
def f21_17b (r17 : Int → Option (Int)) (a0 : Layout) (N : Nat) (v5 : Int) (k1 : Option (Int)) (v6 : Int) : Option (Int) :=
 bif decide (v6 < v5) then ((ix a0.Labels v5).bind fun x3 =>
 (ix a0.Labels v6).bind fun x4 =>
 (f57 N x3 x4).bind fun x5 =>
 bif x5 then (some ((12 : Int)))
 else (r17 (W (v6 + (1 : Int)))))
 else k1
def f21_17 (a0 : Layout) (N : Nat) (v5 : Int) (k1 : Option (Int)) : Nat → Int → Option (Int)
  | 0, _ => none
  | n + 1, v6 => f21_17b (f21_17 a0 N v5 k1 n) a0 N v5 k1 v6
def Sf21_17 : Ann := ⟨[1, 5, 6], [0], [], []⟩
def Vf21_17 (a0 : Layout) (v5 : Int) (v6 : Int) : List SV := [.ptr 0 0, .dat (iN v5), .dat (iN v6)]
def Bf21_17 (a0 : Layout) (v5 : Int) (v6 : Int) : List Blk := [.box [.dat (iN a0.W), .dat (iN a0.H), .dat (sl_Label a0.Labels)]]
theorem Lf21_17 {c : Ctx} {p nid : Nat} {a : Code} {K : Ex → St → Prop} {r : Int} {a0 : Layout} {N : Nat} {v5 : Int} {k1 : Option (Int)} {fu : Nat} {v6 : Int} {st st' : St} (hz : Sf21_17.ok p = true) (h1 : st.norm Sf21_17 = some st') (h2 : st'.cutOk Sf21_17.keep Sf21_17.bs (memB Sf21_17.bs) = true) (h3 : vals Sf21_17.keep st'.e = Vf21_17 a0 v5 v6) (h4 : blks Sf21_17.bs st'.m = Bf21_17 a0 v5 v6)
    (h : ∀ (n : Nat) (v6 : Int), f21_17b (f21_17 a0 N v5 k1 n) a0 N v5 k1 v6 = some r → vc c p nid a (St.mk' Sf21_17 (Vf21_17 a0 v5 v6) (Bf21_17 a0 v5 v6)) (Kloop Sf21_17 (fun y : Nat × Int => Vf21_17 a0 v5 y.2) (fun y : Nat × Int => Bf21_17 a0 v5 y.2) (fun y : Nat × Int => f21_17 a0 N v5 k1 y.1 y.2 = some r) (fun y : Nat × Int => y.1) (n + 1, v6) K)) (hF : f21_17 a0 N v5 k1 fu v6 = some r) : vc c p nid (.loop a) st K := by
  refine vc_loop Sf21_17 (fun y : Nat × Int => Vf21_17 a0 v5 y.2) (fun y : Nat × Int => Bf21_17 a0 v5 y.2) (fun y : Nat × Int => f21_17 a0 N v5 k1 y.1 y.2 = some r) (fun y : Nat × Int => y.1) hz (head_in (x := (fu, v6)) hF h1 h2 h3 h4) ?_
  rintro ⟨_ | n, v6⟩ hI
  · cases hI
  · exact h n v6 hI
theorem Mf21_17 {K : Ex → St → Prop} {r : Int} {a0 : Layout} {N : Nat} {v5 : Int} {k1 : Option (Int)} {n : Nat} {v6 : Int} {v6_ : Int} {st st' : St} (hF : f21_17 a0 N v5 k1 n v6 = some r) (h1 : st.norm Sf21_17 = some st') (h2 : st'.cutOk Sf21_17.keep Sf21_17.bs (memB Sf21_17.bs) = true) (h3 : vals Sf21_17.keep st'.e = Vf21_17 a0 v5 v6) (h4 : blks Sf21_17.bs st'.m = Bf21_17 a0 v5 v6) :
    Kloop Sf21_17 (fun y : Nat × Int => Vf21_17 a0 v5 y.2) (fun y : Nat × Int => Bf21_17 a0 v5 y.2) (fun y : Nat × Int => f21_17 a0 N v5 k1 y.1 y.2 = some r) (fun y : Nat × Int => y.1) (n + 1, v6_) K .normal st := by
  exact head_back (y := (n, v6)) hF (Nat.lt_succ_self n) h1 h2 h3 h4
def f21_14b (r14 : Int → Option (Int)) (a0 : Layout) (N : Nat) (k0 : Option (Int)) (v5 : Int) : Option (Int) :=
 bif decide (v5 < (List.length a0.Labels : Int)) then (joinK (f21_c15 a0 v5 r14) fun k1 =>
 f21_17 a0 N v5 k1 N (0 : Int))
 else k0
def f21_14 (a0 : Layout) (N : Nat) (k0 : Option (Int)) : Nat → Int → Option (Int)
  | 0, _ => none
  | n + 1, v5 => f21_14b (f21_14 a0 N k0 n) a0 N k0 v5
def Sf21_14 : Ann := ⟨[1, 5], [0], [], []⟩
def Vf21_14 (a0 : Layout) (v5 : Int) : List SV := [.ptr 0 0, .dat (iN v5)]
def Bf21_14 (a0 : Layout) (v5 : Int) : List Blk := [.box [.dat (iN a0.W), .dat (iN a0.H), .dat (sl_Label a0.Labels)]]
theorem Lf21_14 {c : Ctx} {p nid : Nat} {a : Code} {K : Ex → St → Prop} {r : Int} {a0 : Layout} {N : Nat} {k0 : Option (Int)} {fu : Nat} {v5 : Int} {st st' : St} (hz : Sf21_14.ok p = true) (h1 : st.norm Sf21_14 = some st') (h2 : st'.cutOk Sf21_14.keep Sf21_14.bs (memB Sf21_14.bs) = true) (h3 : vals Sf21_14.keep st'.e = Vf21_14 a0 v5) (h4 : blks Sf21_14.bs st'.m = Bf21_14 a0 v5)
    (h : ∀ (n : Nat) (v5 : Int), f21_14b (f21_14 a0 N k0 n) a0 N k0 v5 = some r → vc c p nid a (St.mk' Sf21_14 (Vf21_14 a0 v5) (Bf21_14 a0 v5)) (Kloop Sf21_14 (fun y : Nat × Int => Vf21_14 a0 y.2) (fun y : Nat × Int => Bf21_14 a0 y.2) (fun y : Nat × Int => f21_14 a0 N k0 y.1 y.2 = some r) (fun y : Nat × Int => y.1) (n + 1, v5) K)) (hF : f21_14 a0 N k0 fu v5 = some r) : vc c p nid (.loop a) st K := by
  refine vc_loop Sf21_14 (fun y : Nat × Int => Vf21_14 a0 y.2) (fun y : Nat × Int => Bf21_14 a0 y.2) (fun y : Nat × Int => f21_14 a0 N k0 y.1 y.2 = some r) (fun y : Nat × Int => y.1) hz (head_in (x := (fu, v5)) hF h1 h2 h3 h4) ?_
  rintro ⟨_ | n, v5⟩ hI
  · cases hI
  · exact h n v5 hI
theorem Mf21_14 {K : Ex → St → Prop} {r : Int} {a0 : Layout} {N : Nat} {k0 : Option (Int)} {n : Nat} {v5 : Int} {v5_ : Int} {st st' : St} (hF : f21_14 a0 N k0 n v5 = some r) (h1 : st.norm Sf21_14 = some st') (h2 : st'.cutOk Sf21_14.keep Sf21_14.bs (memB Sf21_14.bs) = true) (h3 : vals Sf21_14.keep st'.e = Vf21_14 a0 v5) (h4 : blks Sf21_14.bs st'.m = Bf21_14 a0 v5) :
    Kloop Sf21_14 (fun y : Nat × Int => Vf21_14 a0 y.2) (fun y : Nat × Int => Bf21_14 a0 y.2) (fun y : Nat × Int => f21_14 a0 N k0 y.1 y.2 = some r) (fun y : Nat × Int => y.1) (n + 1, v5_) K .normal st := by
  exact head_back (y := (n, v5)) hF (Nat.lt_succ_self n) h1 h2 h3 h4
def f21_c13 (a0 : Layout) (N : Nat) : Option (Int) :=
 joinK f21_c21 fun k0 =>
 f21_14 a0 N k0 N (0 : Int)
def Sf21_c13 : Ann := ⟨[1], [0], [], []⟩
def Vf21_c13 (a0 : Layout) : List SV := [.ptr 0 0]
def Bf21_c13 (a0 : Layout) : List Blk := [.box [.dat (iN a0.W), .dat (iN a0.H), .dat (sl_Label a0.Labels)]]
theorem Cf21_c13 {c : Ctx} {p nid : Nat} {a b : Code} {st : St} {K : Ex → St → Prop} {r : Int} {a0 : Layout} {N : Nat} {g : _ → Option (Int)} (hn : Nat.beq (nid * 1000 + firstRegion b) 13 = true) (hz : Sf21_c13.ok p = true)
    (h : g (f21_c13 a0 N) = some r → vc c p nid a st (Kseq (fun st' => st'.head Sf21_c13 fun v bl => ∃ x, (fun y : Unit => f21_c13 a0 N  = some r) x ∧ v = (fun y : Unit => Vf21_c13 a0 ) x ∧ bl = (fun y : Unit => Bf21_c13 a0 ) x) K))
    (h2 : ∀ (_ : Unit), f21_c13 a0 N  = some r → vc c p nid b (St.mk' Sf21_c13 (Vf21_c13 a0 ) (Bf21_c13 a0 )) K) (hF : joinK (f21_c13 a0 N) g = some r) : vc c p nid (.seq a b) st K :=
  vc_cut Sf21_c13 (fun y : Unit => Vf21_c13 a0 ) (fun y : Unit => Bf21_c13 a0 ) (fun y : Unit => f21_c13 a0 N  = some r) hz (h hF) fun y hy => h2 () hy
theorem Zf21_c13 {K : Ex → St → Prop} {r : Int} {a0 : Layout} {N : Nat} {st st' : St} (hF : f21_c13 a0 N  = some r) (h1 : st.norm Sf21_c13 = some st') (h2 : st'.cutOk Sf21_c13.keep Sf21_c13.bs (memB Sf21_c13.bs) = true) (h3 : vals Sf21_c13.keep st'.e = Vf21_c13 a0 ) (h4 : blks Sf21_c13.bs st'.m = Bf21_c13 a0 ) :
    Kseq (fun st' => st'.head Sf21_c13 fun v bl => ∃ x, (fun y : Unit => f21_c13 a0 N  = some r) x ∧ v = (fun y : Unit => Vf21_c13 a0 ) x ∧ bl = (fun y : Unit => Bf21_c13 a0 ) x) K .normal st := by
  exact k_seq (head_in (I := (fun y : Unit => f21_c13 a0 N  = some r)) (x := ()) hF h1 h2 h3 h4)
def f21_6b (r6 : Int → Option (Int)) (a0 : Layout) (N : Nat) (k2 : Option (Int)) (v3 : Int) : Option (Int) :=
 bif decide (v3 < (List.length a0.Labels : Int)) then ((ix a0.Labels v3).bind fun x6 =>
 bif decide (x6.W < (1 : Int)) then (some ((3 : Int)))
 else (bif decide (x6.H < (1 : Int)) then (some ((3 : Int)))
 else ((f56 N x6.X (0 : Int) a0.W).bind fun x7 =>
 bif !x7 then (some ((16 : Int)))
 else ((f56 N x6.Y (0 : Int) a0.H).bind fun x8 =>
 bif !x8 then (some ((16 : Int)))
 else (bif decide ((W (a0.W - x6.X)) < x6.W) then (some ((16 : Int)))
 else (bif decide ((W (a0.H - x6.Y)) < x6.H) then (some ((16 : Int)))
 else (r6 (W (v3 + (1 : Int))))))))))
 else k2
def f21_6 (a0 : Layout) (N : Nat) (k2 : Option (Int)) : Nat → Int → Option (Int)
  | 0, _ => none
  | n + 1, v3 => f21_6b (f21_6 a0 N k2 n) a0 N k2 v3
def Sf21_6 : Ann := ⟨[1, 3], [0], [], []⟩
def Vf21_6 (a0 : Layout) (v3 : Int) : List SV := [.ptr 0 0, .dat (iN v3)]
def Bf21_6 (a0 : Layout) (v3 : Int) : List Blk := [.box [.dat (iN a0.W), .dat (iN a0.H), .dat (sl_Label a0.Labels)]]
theorem Lf21_6 {c : Ctx} {p nid : Nat} {a : Code} {K : Ex → St → Prop} {r : Int} {a0 : Layout} {N : Nat} {k2 : Option (Int)} {fu : Nat} {v3 : Int} {st st' : St} (hz : Sf21_6.ok p = true) (h1 : st.norm Sf21_6 = some st') (h2 : st'.cutOk Sf21_6.keep Sf21_6.bs (memB Sf21_6.bs) = true) (h3 : vals Sf21_6.keep st'.e = Vf21_6 a0 v3) (h4 : blks Sf21_6.bs st'.m = Bf21_6 a0 v3)
    (h : ∀ (n : Nat) (v3 : Int), f21_6b (f21_6 a0 N k2 n) a0 N k2 v3 = some r → vc c p nid a (St.mk' Sf21_6 (Vf21_6 a0 v3) (Bf21_6 a0 v3)) (Kloop Sf21_6 (fun y : Nat × Int => Vf21_6 a0 y.2) (fun y : Nat × Int => Bf21_6 a0 y.2) (fun y : Nat × Int => f21_6 a0 N k2 y.1 y.2 = some r) (fun y : Nat × Int => y.1) (n + 1, v3) K)) (hF : f21_6 a0 N k2 fu v3 = some r) : vc c p nid (.loop a) st K := by
  refine vc_loop Sf21_6 (fun y : Nat × Int => Vf21_6 a0 y.2) (fun y : Nat × Int => Bf21_6 a0 y.2) (fun y : Nat × Int => f21_6 a0 N k2 y.1 y.2 = some r) (fun y : Nat × Int => y.1) hz (head_in (x := (fu, v3)) hF h1 h2 h3 h4) ?_
  rintro ⟨_ | n, v3⟩ hI
  · cases hI
  · exact h n v3 hI
theorem Mf21_6 {K : Ex → St → Prop} {r : Int} {a0 : Layout} {N : Nat} {k2 : Option (Int)} {n : Nat} {v3 : Int} {v3_ : Int} {st st' : St} (hF : f21_6 a0 N k2 n v3 = some r) (h1 : st.norm Sf21_6 = some st') (h2 : st'.cutOk Sf21_6.keep Sf21_6.bs (memB Sf21_6.bs) = true) (h3 : vals Sf21_6.keep st'.e = Vf21_6 a0 v3) (h4 : blks Sf21_6.bs st'.m = Bf21_6 a0 v3) :
    Kloop Sf21_6 (fun y : Nat × Int => Vf21_6 a0 y.2) (fun y : Nat × Int => Bf21_6 a0 y.2) (fun y : Nat × Int => f21_6 a0 N k2 y.1 y.2 = some r) (fun y : Nat × Int => y.1) (n + 1, v3_) K .normal st := by
  exact head_back (y := (n, v3)) hF (Nat.lt_succ_self n) h1 h2 h3 h4
def f21 (N : Nat) (a0 : Layout) : Option (Int) :=
 (f56 N a0.W (1 : Int) (12 : Int)).bind fun x1 =>
 bif !x1 then (some ((3 : Int)))
 else ((f56 N a0.H (1 : Int) (12 : Int)).bind fun x2 =>
 bif !x2 then (some ((3 : Int)))
 else (bif decide ((10 : Int) < (List.length a0.Labels : Int)) then (some ((2 : Int)))
 else (joinK (f21_c13 a0 N) fun k2 =>
 f21_6 a0 N k2 N (0 : Int))))
def G21 (ds : List D) (d : D) : Prop := ∃ (N : Nat) (a0 : Layout) (r : Int), ds = [Layout.d a0] ∧ f21 N a0 = some r ∧ d = iN r
theorem G21.step {N : Nat} {a0 : Layout} {ρ : Type} {A : Int → Option ρ} {q : ρ} {ds : List D} {K : D → Prop} (hd : ds = [Layout.d a0]) (h : ∀ r, A r = some q → K (iN r)) (hF : (f21 N a0).bind A = some q) : ∃ d, G21 ds d ∧ K d := by
  obtain ⟨r, hr, hA⟩ := bind_some hF
  exact ⟨_, ⟨N, a0, r, hd, hr, rfl⟩, h r hA⟩
set_option maxRecDepth 20000 in
set_option maxHeartbeats 4000000 in
theorem P21 : PureOK Try.prog 21 G21 := by
  refine pure_of_vc (c := mkCtx tyTree [(57, true, purePg [[0, 0, 0, 0], [0, 0, 0, 0]] G57), (56, true, purePg [[0], [0], [0]] G56)]) rfl tyOK (ctx_cons (callable Try.func57 rfl rfl) P57 (ctx_cons (callable Try.func56 rfl rfl) P56 (ctx_nil))) [[0]] 1 Try.func21 rfl rfl (by decide) (by kernel_rfl) ?_
  rintro ds d ⟨N, a0, r, rfl, hF, rfl⟩ hok
  clear hok
  refine ⟨rfl, ?_⟩
  show vc _ _ _ _ ⟨[(0, .dat (Layout.d a0))], []⟩ _
  unfold f21 at hF
  repeat' (first
    | ((with_reducible refine q0 _ _ ?_); clear Q q0 q1 q2)
    | ((with_reducible refine q1 _ _ _ _ ?_); clear Q q0 q1 q2)
    | ((with_reducible refine q2 _ _ _ ?_); clear Q q0 q1 q2)
    | ((with_reducible refine seq_op ?hx (fun Q q0 q1 q2 => ?_)); (case hx => exact rfl); conv => whnf)
    | ((with_reducible refine draw_op ?hx (fun Q q0 q1 q2 => ?_)); (case hx => exact rfl); conv => whnf)
    | ((with_reducible refine seq_op0 ?hx (fun Q q0 q1 q2 => ?_)); (case hx => exact rfl); conv => whnf)
    | ((with_reducible refine draw_op0 ?hx (fun Q q0 q1 q2 => ?_)); (case hx => exact rfl); conv => whnf)
    | ((with_reducible refine seq_off ?hx ?_); (case hx => exact rfl))
    | ((with_reducible refine seq_off0 ?hx ?_); (case hx => exact rfl))
    | ((with_reducible refine draw_off ?hx ?_); (case hx => exact rfl))
    | ((with_reducible refine draw_off0 ?hx ?_); (case hx => exact rfl))
    | ((with_reducible refine seq_id ?_); (first | ((refine seq_opK rfl ?hy (fun Q q0 q1 q2 => ?_)); (case hy => first | assumption | exact notT (by assumption) | exact rfl); conv => whnf) | ((refine seq_offK rfl ?hy ?_); (case hy => first | assumption | exact notF (by assumption) | exact rfl)) | ((refine seq_opK0 rfl ?hy (fun Q q0 q1 q2 => ?_)); (case hy => first | assumption | exact notT (by assumption) | exact rfl); conv => whnf) | ((refine seq_offK0 rfl ?hy ?_); (case hy => first | assumption | exact notF (by assumption) | exact rfl)) | (revert hF; (with_reducible refine seq_opF ?hx ?_ ?_); (case hx => exact rfl); (intro hc hF Q q0 q1 q2; conv => whnf); rotate_left; (intro hc hF); rotate_right) | (revert hF; (with_reducible refine seq_opN ?hx ?_ ?_); (case hx => exact rfl); (intro hc hF); rotate_left; (intro hc hF Q q0 q1 q2; conv => whnf); rotate_right) | (revert hF; (with_reducible refine seq_opF0 ?hx ?_ ?_); (case hx => exact rfl); (intro hc hF Q q0 q1 q2; conv => whnf); rotate_left; (intro hc hF); rotate_right) | (revert hF; (with_reducible refine seq_opN0 ?hx ?_ ?_); (case hx => exact rfl); (intro hc hF); rotate_left; (intro hc hF Q q0 q1 q2; conv => whnf); rotate_right)))
    | ((with_reducible refine draw_id ?_); (first | ((refine draw_opK rfl ?hy (fun Q q0 q1 q2 => ?_)); (case hy => first | assumption | exact notT (by assumption) | exact rfl); conv => whnf) | ((refine draw_offK rfl ?hy ?_); (case hy => first | assumption | exact notF (by assumption) | exact rfl)) | ((refine draw_opK0 rfl ?hy (fun Q q0 q1 q2 => ?_)); (case hy => first | assumption | exact notT (by assumption) | exact rfl); conv => whnf) | ((refine draw_offK0 rfl ?hy ?_); (case hy => first | assumption | exact notF (by assumption) | exact rfl)) | (revert hF; (with_reducible refine draw_opF ?hx ?_ ?_); (case hx => exact rfl); (intro hc hF Q q0 q1 q2; conv => whnf); rotate_left; (intro hc hF); rotate_right) | (revert hF; (with_reducible refine draw_opN ?hx ?_ ?_); (case hx => exact rfl); (intro hc hF); rotate_left; (intro hc hF Q q0 q1 q2; conv => whnf); rotate_right) | (revert hF; (with_reducible refine draw_opF0 ?hx ?_ ?_); (case hx => exact rfl); (intro hc hF Q q0 q1 q2; conv => whnf); rotate_left; (intro hc hF); rotate_right) | (revert hF; (with_reducible refine draw_opN0 ?hx ?_ ?_); (case hx => exact rfl); (intro hc hF); rotate_left; (intro hc hF Q q0 q1 q2; conv => whnf); rotate_right)))
    | ((with_reducible refine cond_id ?_); (first | ((refine condKT rfl ?hy ?_); (case hy => first | assumption | exact notT (by assumption) | exact rfl)) | ((refine condKF rfl ?hy ?_); (case hy => first | assumption | exact notF (by assumption) | exact rfl)) | (revert hF; (with_reducible refine condF ?hx ?_ ?_); (case hx => exact rfl); all_goals (intro hc hF))))
    | ((with_reducible refine seq_nil ?_); (first | ((with_reducible refine hR _ ?_); clear R hR) | ((with_reducible refine hL _ ?_); clear L hL)))
    | ((with_reducible refine draw_nil ?_); (with_reducible refine hR _ _ ?hx ?_); (case hx => kernel_rfl); (first | clear R hR | clear hR))
    | ((with_reducible refine int_step ?_); conv => whnf)
    | ((with_reducible refine len_step ?_); conv => whnf)
    | ((with_reducible refine idx2 (by assumption) ?_); conv => whnf)
    | ((with_reducible refine idx3 (by assumption) ?_); conv => whnf)
    | with_reducible refine vc_block ?_
    | with_reducible refine vc_skip ?_
    | with_reducible refine vc_ret ?_
    | with_reducible refine vc_exit ?_
    | ((with_reducible refine vc_seqN [21, 15, 13] ?hx ?_); (case hx => exact rfl))
    | (with_reducible refine vc_region (fun R hR => ?_))
    | ((with_reducible refine vc_draw ?hx (fun R hR => ?_)); (case hx => exact rfl))
    | ((with_reducible refine vc_tail (n := 10) ?hx ?hn rfl rfl (fun R L hL hR => ?_)); (case hx => kernel_rfl); (case hn => exact rfl); simp only [List.take_succ_cons, List.take_zero, List.drop_succ_cons, List.drop_zero] at hR ⊢)
    | (revert hF; (refine Cf21_c21 rfl rfl ?_ ?_); (intro hF); rotate_left; (intro _ hF; unfold f21_c21 at hF); rotate_right)
    | exact Zf21_c21 hF rfl rfl rfl rfl
    | (revert hF; (refine Cf21_c15 rfl rfl ?_ ?_); (intro hF); rotate_left; (intro _ hF; unfold f21_c15 at hF); rotate_right)
    | exact Zf21_c15 hF rfl rfl rfl rfl
    | (revert hF; (refine Lf21_17 rfl rfl rfl rfl rfl ?_); intro n v6 hF; unfold f21_17b at hF)
    | exact Mf21_17 hF rfl rfl rfl rfl
    | (revert hF; (refine Lf21_14 rfl rfl rfl rfl rfl ?_); intro n v5 hF; unfold f21_14b at hF)
    | exact Mf21_14 hF rfl rfl rfl rfl
    | (revert hF; (refine Cf21_c13 rfl rfl ?_ ?_); (intro hF); rotate_left; (intro _ hF; unfold f21_c13 at hF); rotate_right)
    | exact Zf21_c13 hF rfl rfl rfl rfl
    | (revert hF; (refine Lf21_6 rfl rfl rfl rfl rfl ?_); intro n v3 hF; unfold f21_6b at hF)
    | exact Mf21_6 hF rfl rfl rfl rfl
    | (revert hF; (with_reducible refine G56.step ?hx ?_); (case hx => exact rfl); intro v hF; conv => whnf)
    | (revert hF; (with_reducible refine G57.step ?hx ?_); (case hx => exact rfl); intro v hF; conv => whnf)
    | with_reducible refine k_seq_ret ?_
    | with_reducible refine k_seq_exit ?_
    | with_reducible refine k_blk ?_
    | with_reducible refine k_blk_ret ?_
    | with_reducible refine k_blk_here ?_
    | ((with_reducible refine k_blk_out ?hx ?_); (case hx => exact rfl))
    | with_reducible refine k_loop_ret ?_
    | with_reducible refine k_loop_exit ?_
    | (revert hF; (with_reducible refine idx1 ?hn ?_); (case hn => first | exact rfl | exact (List.length_map _) | assumption | omega | simp); intro x hx hF; conv => whnf)
    | ((with_reducible have hG := sub_fact hF); clear hF; (first | (refine sub_step hG (fun q hF => ?_)) | (refine subrow_step hG ?hn (fun q hF => ?_); (case hn => first | exact rfl | assumption | omega))); clear hG; conv => whnf)
    | ((with_reducible have hG := app_fact hF); clear hF; (first | ((refine app_row hG ?hn ?hs (fun q hF => ?_)); (case hn => first | exact rfl | assumption | omega); (case hs => exact rfl)) ); clear hG; conv => whnf)
    | ((refine row_all ?hn ?_); (case hn => first | exact rfl | (simp; done) | (simp; omega)); conv => whnf)
    | ((with_reducible refine le_step ?hn ?_); (case hn => first | exact rfl | assumption | omega); conv => whnf)
    | ((with_reducible have hG := setx_fact hF); clear hF; (refine setx_step hG ?hs (fun q hl hF => ?_)); (case hs => exact rfl); clear hG; conv => whnf)
    | (revert hF; (with_reducible refine dem_step ?_ ?_); (intro hl hF; conv => whnf); rotate_left; (intro hF; conv => whnf); rotate_right)
    | ((refine ⟨?hx, ?_⟩); (case hx => exact ⟨rfl, Nat.le_of_ble_eq_true rfl, rfl⟩); conv => whnf)
    | ((with_reducible refine ex_step ?_); conv => whnf)
    | ((with_reducible have hG := chk_fact hF); clear hF; (refine ⟨?hx, ?_⟩); (case hx => (first | exact of_decide_eq_true hG.1 | exact hG.1)); have hF := hG.2; clear hG; conv => whnf)
    | ((with_reducible refine both_T ?hx ?_); (case hx => first | exact rfl | assumption | exact notT (by assumption)); conv => whnf)
    | ((with_reducible refine both_F ?hx ?_); (case hx => first | exact rfl | assumption | exact notF (by assumption)); conv => whnf)
    | (revert hF; (with_reducible refine ite_step ?_ ?_) <;> (intro hc hF; conv => whnf))
    | ((with_reducible refine vc_condT ?hx ?_); (case hx => exact rfl))
    | ((with_reducible refine vc_condF ?hx ?_); (case hx => exact rfl))
    | (show retD _ _ _ _ _ _; conv => whnf)
    | ((refine inl_step ?ha ?hb ?hc rfl ?_); (case ha => exact rfl); (case hb => omega); (case hc => exact Nat.le_of_ble_eq_true rfl))
    | (show Kinl _ _ _ _ _ _ _; conv => whnf)
    | ((with_reducible refine kinl_step ?ha ?hb ?_); (case ha => exact rfl); (case hb => exact rfl); conv => whnf)
    | ((refine ⟨?hx, trivial⟩); (case hx => (cases hF; exact rfl)))
    | ((refine ⟨?hx, ?_⟩); (case hx => decide); conv => whnf)
    | ((with_reducible refine k_seq ?_))
    | (have hF : (none : Option _) = some _ := hF; cases hF))
end Go.Vc
namespace Go.Vc
open Go.Proofs
set_option linter.unusedVariables false
set_option linter.unnecessarySimpa false
set_option linter.unusedSimpArgs false
/- f47: tusche/tuscheref06.sheet -/
def f47 (N : Nat) (a0 : Layout) : Option (Label) :=
 some ((Label.mk (0 : Int) (0 : Int) a0.W a0.H))
def G47 (ds : List D) (d : D) : Prop := ∃ (N : Nat) (a0 : Layout) (r : Label), ds = [Layout.d a0] ∧ f47 N a0 = some r ∧ d = Label.d r
theorem G47.step {N : Nat} {a0 : Layout} {ρ : Type} {A : Label → Option ρ} {q : ρ} {ds : List D} {K : D → Prop} (hd : ds = [Layout.d a0]) (h : ∀ r, A r = some q → K (Label.d r)) (hF : (f47 N a0).bind A = some q) : ∃ d, G47 ds d ∧ K d := by
  obtain ⟨r, hr, hA⟩ := bind_some hF
  exact ⟨_, ⟨N, a0, r, hd, hr, rfl⟩, h r hA⟩
set_option maxRecDepth 20000 in
set_option maxHeartbeats 4000000 in
theorem P47 : PureOK Try.prog 47 G47 := by
  refine pure_of_vc (c := mkCtx tyTree []) rfl tyOK (ctx_nil) [[0, 0, 0, 0]] 1 Try.func47 rfl rfl (by decide) (by kernel_rfl) ?_
  rintro ds d ⟨N, a0, r, rfl, hF, rfl⟩ hok
  clear hok
  refine ⟨rfl, ?_⟩
  show vc _ _ _ _ ⟨[(0, .dat (Layout.d a0))], []⟩ _
  unfold f47 at hF
  repeat' (first
    | ((with_reducible refine q0 _ _ ?_); clear Q q0 q1 q2)
    | ((with_reducible refine q1 _ _ _ _ ?_); clear Q q0 q1 q2)
    | ((with_reducible refine q2 _ _ _ ?_); clear Q q0 q1 q2)
    | ((with_reducible refine seq_op ?hx (fun Q q0 q1 q2 => ?_)); (case hx => exact rfl); conv => whnf)
    | ((with_reducible refine draw_op ?hx (fun Q q0 q1 q2 => ?_)); (case hx => exact rfl); conv => whnf)
    | ((with_reducible refine seq_op0 ?hx (fun Q q0 q1 q2 => ?_)); (case hx => exact rfl); conv => whnf)
    | ((with_reducible refine draw_op0 ?hx (fun Q q0 q1 q2 => ?_)); (case hx => exact rfl); conv => whnf)
    | ((with_reducible refine seq_off ?hx ?_); (case hx => exact rfl))
    | ((with_reducible refine seq_off0 ?hx ?_); (case hx => exact rfl))
    | ((with_reducible refine draw_off ?hx ?_); (case hx => exact rfl))
    | ((with_reducible refine draw_off0 ?hx ?_); (case hx => exact rfl))
    | ((with_reducible refine seq_id ?_); (first | ((refine seq_opK rfl ?hy (fun Q q0 q1 q2 => ?_)); (case hy => first | assumption | exact notT (by assumption) | exact rfl); conv => whnf) | ((refine seq_offK rfl ?hy ?_); (case hy => first | assumption | exact notF (by assumption) | exact rfl)) | ((refine seq_opK0 rfl ?hy (fun Q q0 q1 q2 => ?_)); (case hy => first | assumption | exact notT (by assumption) | exact rfl); conv => whnf) | ((refine seq_offK0 rfl ?hy ?_); (case hy => first | assumption | exact notF (by assumption) | exact rfl)) | (revert hF; (with_reducible refine seq_opF ?hx ?_ ?_); (case hx => exact rfl); (intro hc hF Q q0 q1 q2; conv => whnf); rotate_left; (intro hc hF); rotate_right) | (revert hF; (with_reducible refine seq_opN ?hx ?_ ?_); (case hx => exact rfl); (intro hc hF); rotate_left; (intro hc hF Q q0 q1 q2; conv => whnf); rotate_right) | (revert hF; (with_reducible refine seq_opF0 ?hx ?_ ?_); (case hx => exact rfl); (intro hc hF Q q0 q1 q2; conv => whnf); rotate_left; (intro hc hF); rotate_right) | (revert hF; (with_reducible refine seq_opN0 ?hx ?_ ?_); (case hx => exact rfl); (intro hc hF); rotate_left; (intro hc hF Q q0 q1 q2; conv => whnf); rotate_right)))
    | ((with_reducible refine draw_id ?_); (first | ((refine draw_opK rfl ?hy (fun Q q0 q1 q2 => ?_)); (case hy => first | assumption | exact notT (by assumption) | exact rfl); conv => whnf) | ((refine draw_offK rfl ?hy ?_); (case hy => first | assumption | exact notF (by assumption) | exact rfl)) | ((refine draw_opK0 rfl ?hy (fun Q q0 q1 q2 => ?_)); (case hy => first | assumption | exact notT (by assumption) | exact rfl); conv => whnf) | ((refine draw_offK0 rfl ?hy ?_); (case hy => first | assumption | exact notF (by assumption) | exact rfl)) | (revert hF; (with_reducible refine draw_opF ?hx ?_ ?_); (case hx => exact rfl); (intro hc hF Q q0 q1 q2; conv => whnf); rotate_left; (intro hc hF); rotate_right) | (revert hF; (with_reducible refine draw_opN ?hx ?_ ?_); (case hx => exact rfl); (intro hc hF); rotate_left; (intro hc hF Q q0 q1 q2; conv => whnf); rotate_right) | (revert hF; (with_reducible refine draw_opF0 ?hx ?_ ?_); (case hx => exact rfl); (intro hc hF Q q0 q1 q2; conv => whnf); rotate_left; (intro hc hF); rotate_right) | (revert hF; (with_reducible refine draw_opN0 ?hx ?_ ?_); (case hx => exact rfl); (intro hc hF); rotate_left; (intro hc hF Q q0 q1 q2; conv => whnf); rotate_right)))
    | ((with_reducible refine cond_id ?_); (first | ((refine condKT rfl ?hy ?_); (case hy => first | assumption | exact notT (by assumption) | exact rfl)) | ((refine condKF rfl ?hy ?_); (case hy => first | assumption | exact notF (by assumption) | exact rfl)) | (revert hF; (with_reducible refine condF ?hx ?_ ?_); (case hx => exact rfl); all_goals (intro hc hF))))
    | ((with_reducible refine seq_nil ?_); (first | ((with_reducible refine hR _ ?_); clear R hR) | ((with_reducible refine hL _ ?_); clear L hL)))
    | ((with_reducible refine draw_nil ?_); (with_reducible refine hR _ _ ?hx ?_); (case hx => kernel_rfl); (first | clear R hR | clear hR))
    | ((with_reducible refine int_step ?_); conv => whnf)
    | ((with_reducible refine len_step ?_); conv => whnf)
    | ((with_reducible refine idx2 (by assumption) ?_); conv => whnf)
    | ((with_reducible refine idx3 (by assumption) ?_); conv => whnf)
    | with_reducible refine vc_block ?_
    | with_reducible refine vc_skip ?_
    | with_reducible refine vc_ret ?_
    | with_reducible refine vc_exit ?_
    | ((with_reducible refine vc_seqN [] ?hx ?_); (case hx => exact rfl))
    | (with_reducible refine vc_region (fun R hR => ?_))
    | ((with_reducible refine vc_draw ?hx (fun R hR => ?_)); (case hx => exact rfl))
    | fail
    | with_reducible refine k_seq_ret ?_
    | with_reducible refine k_seq_exit ?_
    | with_reducible refine k_blk ?_
    | with_reducible refine k_blk_ret ?_
    | with_reducible refine k_blk_here ?_
    | ((with_reducible refine k_blk_out ?hx ?_); (case hx => exact rfl))
    | with_reducible refine k_loop_ret ?_
    | with_reducible refine k_loop_exit ?_
    | (revert hF; (with_reducible refine idx1 ?hn ?_); (case hn => first | exact rfl | exact (List.length_map _) | assumption | omega | simp); intro x hx hF; conv => whnf)
    | ((with_reducible have hG := sub_fact hF); clear hF; (first | (refine sub_step hG (fun q hF => ?_)) | (refine subrow_step hG ?hn (fun q hF => ?_); (case hn => first | exact rfl | assumption | omega))); clear hG; conv => whnf)
    | ((with_reducible have hG := app_fact hF); clear hF; (first | ((refine app_row hG ?hn ?hs (fun q hF => ?_)); (case hn => first | exact rfl | assumption | omega); (case hs => exact rfl)) ); clear hG; conv => whnf)
    | ((refine row_all ?hn ?_); (case hn => first | exact rfl | (simp; done) | (simp; omega)); conv => whnf)
    | ((with_reducible refine le_step ?hn ?_); (case hn => first | exact rfl | assumption | omega); conv => whnf)
    | ((with_reducible have hG := setx_fact hF); clear hF; (refine setx_step hG ?hs (fun q hl hF => ?_)); (case hs => exact rfl); clear hG; conv => whnf)
    | (revert hF; (with_reducible refine dem_step ?_ ?_); (intro hl hF; conv => whnf); rotate_left; (intro hF; conv => whnf); rotate_right)
    | ((refine ⟨?hx, ?_⟩); (case hx => exact ⟨rfl, Nat.le_of_ble_eq_true rfl, rfl⟩); conv => whnf)
    | ((with_reducible refine ex_step ?_); conv => whnf)
    | ((with_reducible have hG := chk_fact hF); clear hF; (refine ⟨?hx, ?_⟩); (case hx => (first | exact of_decide_eq_true hG.1 | exact hG.1)); have hF := hG.2; clear hG; conv => whnf)
    | ((with_reducible refine both_T ?hx ?_); (case hx => first | exact rfl | assumption | exact notT (by assumption)); conv => whnf)
    | ((with_reducible refine both_F ?hx ?_); (case hx => first | exact rfl | assumption | exact notF (by assumption)); conv => whnf)
    | (revert hF; (with_reducible refine ite_step ?_ ?_) <;> (intro hc hF; conv => whnf))
    | ((with_reducible refine vc_condT ?hx ?_); (case hx => exact rfl))
    | ((with_reducible refine vc_condF ?hx ?_); (case hx => exact rfl))
    | (show retD _ _ _ _ _ _; conv => whnf)
    | ((refine inl_step ?ha ?hb ?hc rfl ?_); (case ha => exact rfl); (case hb => omega); (case hc => exact Nat.le_of_ble_eq_true rfl))
    | (show Kinl _ _ _ _ _ _ _; conv => whnf)
    | ((with_reducible refine kinl_step ?ha ?hb ?_); (case ha => exact rfl); (case hb => exact rfl); conv => whnf)
    | ((refine ⟨?hx, trivial⟩); (case hx => (cases hF; exact rfl)))
    | ((refine ⟨?hx, ?_⟩); (case hx => decide); conv => whnf)
    | ((with_reducible refine k_seq ?_))
    | (have hF : (none : Option _) = some _ := hF; cases hF))
end Go.Vc

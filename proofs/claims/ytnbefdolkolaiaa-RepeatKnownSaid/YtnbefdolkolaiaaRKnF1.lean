/-
  A library for proofs about Go functions by symbolic evaluation, and plain Lean functions that the walked Go functions compute (written by a program of this claim).
-/
import Derived.Test.YtnbefdolkolaiaaW1
import Derived.Test.YtnbefdolkolaiaaW3
import Derived.Test.YtnbefdolkolaiaaW2
namespace Go.Vc
open Go.Proofs
set_option linter.unusedVariables false
set_option linter.unnecessarySimpa false
set_option linter.unusedSimpArgs false
section
variable {c : Ctx} {p nid : Nat} {a b : Code} {st : St} {K : Ex → St → Prop}
def f14 (N : Nat) : Option (Bool) :=
 (f25 N (3 : Int) (5 : Int) (7 : Int)).bind fun x1 =>
 (f25 N (4 : Int) (6 : Int) (8 : Int)).bind fun x2 =>
 (f20 N (strC [97, 98, 97, 97, 98, 97, 98, 97, 97, 98, 97])).bind fun x3 =>
 (f18 N (strC [97, 98, 97])).bind fun x4 =>
 (f33 N (4 : Int) (2 : Int)).bind fun x5 =>
 (f35 N [(strC [97, 98, 99, 100, 101, 102, 103, 104, 105])]).bind fun x6 =>
 (f25 N (3 : Int) (0 : Int) (5 : Int)).bind fun x7 =>
 bif decide (x1.2 = (0 : Int)) then (bif decide (x2.2 = (0 : Int)) then (bif decide (x3.2 = (0 : Int)) then (bif decide (x4.2.2 = (0 : Int)) then (bif decide (x5.2 = (0 : Int)) then (bif decide (x6.2 = (19 : Int)) then (bif decide (x7.2 = (3 : Int)) then (bif decide (x1.1 = (strC [97, 97, 97, 97, 97, 97, 97])) then (bif decide (x2.1 = (strC [97, 98, 97, 98, 97, 98, 97, 98])) then ((f46 N [(3 : Int), (6 : Int), (11 : Int)]).bind fun x8 =>
 (f22 N x3.1 x8).bind fun x9 =>
 bif x9 then (bif decide (x4.1 = (strC [97, 98, 97])) then (bif decide (x4.2.1 = (1 : Int)) then (bif decide (x5.1 = (6 : Int)) then ((f15 N ).bind fun x10 =>
 some (x10))
 else (some (false)))
 else (some (false)))
 else (some (false)))
 else (some (false)))
 else (some (false)))
 else (some (false)))
 else (some (false)))
 else (some (false)))
 else (some (false)))
 else (some (false)))
 else (some (false)))
 else (some (false)))
 else (some (false))
def G14 (ds : List D) (d : D) : Prop := ∃ (N : Nat) (r : Bool), ds = [] ∧ f14 N  = some r ∧ d = bN r
set_option maxRecDepth 20000 in
set_option maxHeartbeats 4000000 in
theorem P14 : PureOK Try.prog 14 G14 := by
  refine pure_of_vc (c := mkCtx tyTree [(46, true, purePg [[1]] G46), (35, true, lendPg [[1]] G35), (33, true, lendPg [[0], [0]] G33), (25, true, lendPg [[0], [0], [0]] G25), (22, true, lendPg [[1], [1]] G22), (20, true, purePg [[0]] G20), (18, true, lendPg [[0]] G18), (15, true, lendPg [] G15)]) rfl tyOK (ctx_cons (callable Try.func46 rfl rfl) P46 (ctx_lend (callable Try.func35 rfl rfl) P35 (ctx_lend (callable Try.func33 rfl rfl) P33 (ctx_lend (callable Try.func25 rfl rfl) P25 (ctx_lend (callable Try.func22 rfl rfl) P22 (ctx_cons (callable Try.func20 rfl rfl) P20 (ctx_lend (callable Try.func18 rfl rfl) P18 (ctx_lend (callable Try.func15 rfl rfl) P15 (ctx_nil))))))))) [[0]] 0 Try.func14 rfl rfl (by decide) (by kernel_rfl) ?_
  rintro ds d ⟨N, r, rfl, hF, rfl⟩ hok
  clear hok
  refine ⟨rfl, ?_⟩
  show vc _ _ _ _ ⟨[], []⟩ _
  unfold f14 at hF
  repeat' (first
    | ((with_reducible first | refine q0 _ _ ?_ | refine q1 _ _ _ _ ?_ | refine q2 _ _ _ ?_); clear Q q0 q1 q2)
    | ((with_reducible first | refine seq_op ?hx (fun Q q0 q1 q2 => ?_)); (case hx => exact rfl); conv => whnf)
    | ((with_reducible first | refine seq_off ?hx ?_ | refine seq_off0 ?hx ?_); (case hx => exact rfl))
    | ((with_reducible refine seq_id ?_); (first | ((first | refine seq_opK rfl ?hy (fun Q q0 q1 q2 => ?_) | refine seq_opK0 rfl ?hy (fun Q q0 q1 q2 => ?_)); (case hy => first | assumption | exact notT (by assumption) | exact rfl); conv => whnf) | ((first | refine seq_offK rfl ?hy ?_ | refine seq_offK0 rfl ?hy ?_); (case hy => first | assumption | exact notF (by assumption) | exact rfl)) | (revert hF; (with_reducible first | refine seq_opF ?hx ?_ ?_ | refine seq_opF0 ?hx ?_ ?_); (case hx => exact rfl); (intro hc hF Q q0 q1 q2; conv => whnf); rotate_left; (intro hc hF); rotate_right) | (revert hF; (with_reducible first | refine seq_opN ?hx ?_ ?_ | refine seq_opN0 ?hx ?_ ?_); (case hx => exact rfl); (intro hc hF); rotate_left; (intro hc hF Q q0 q1 q2; conv => whnf); rotate_right)))
    | ((with_reducible refine seq_nil ?_); (first | ((with_reducible refine hR _ ?_); clear R hR) | ((with_reducible refine hL _ ?_); clear L hL)))
    | ((with_reducible first | refine int_step ?_); conv => whnf)
    | (with_reducible first | refine vc_skip ?_ | refine vc_ret ?_ | refine vc_region (fun R hR => ?_) | refine k_seq_ret ?_)
    | ((with_reducible refine vc_seqN [] ?hx ?_); (case hx => exact rfl))
    | (revert hF; (with_reducible refine G15.lend ?hx ?_); (case hx => exact rfl); intro v hF; conv => whnf)
    | (revert hF; (with_reducible refine G18.lend ?hx ?_); (case hx => exact rfl); intro v hF; conv => whnf)
    | (revert hF; (with_reducible refine G20.step ?hx ?_); (case hx => exact rfl); intro v hF; conv => whnf)
    | (revert hF; (with_reducible refine G22.lend ?hx ?_); (case hx => exact rfl); intro v hF; conv => whnf)
    | (revert hF; (with_reducible refine G25.lend ?hx ?_); (case hx => exact rfl); intro v hF; conv => whnf)
    | (revert hF; (with_reducible refine G33.lend ?hx ?_); (case hx => exact rfl); intro v hF; conv => whnf)
    | (revert hF; (with_reducible refine G35.lend ?hx ?_); (case hx => exact rfl); intro v hF; conv => whnf)
    | (revert hF; (with_reducible refine G46.step ?hx ?_); (case hx => exact rfl); intro v hF; conv => whnf)
    | ((refine row_all ?hn ?_); (case hn => first | exact rfl | (simp; done) | (simp; omega)); conv => whnf)
    | ((with_reducible refine le_step ?hn ?_); (case hn => first | exact rfl | assumption | omega); conv => whnf)
    | ((refine ⟨?hx, ?_⟩); (case hx => exact ⟨rfl, Nat.le_of_ble_eq_true rfl, rfl⟩); conv => whnf)
    | ((with_reducible refine ex_step ?_); conv => whnf)
    | ((with_reducible refine both_T ?hx ?_); (case hx => first | exact rfl | assumption | exact notT (by assumption)); conv => whnf)
    | ((with_reducible refine both_F ?hx ?_); (case hx => first | exact rfl | assumption | exact notF (by assumption)); conv => whnf)
    | (revert hF; (with_reducible refine ite_step ?_ ?_) <;> (intro hc hF; conv => whnf))
    | (show retD _ _ _ _ _ _; conv => whnf)
    | ((refine ⟨?hx, trivial⟩); (case hx => (cases hF; exact rfl)))
    | ((refine ⟨?hx, ?_⟩); (case hx => decide); conv => whnf)
    | with_reducible refine k_seq ?_
    | (have hF : (none : Option _) = some _ := hF; cases hF))
end
end Go.Vc

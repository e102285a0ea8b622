/-
  A library for proofs about Go functions by symbolic evaluation, and plain Lean functions that the walked Go functions compute (written by a program of this claim).
-/
import Derived.Test.YtnbefdolkolaiaaW1
import Derived.Test.YtnbefdolkolaiaaW3
import Derived.Test.YtnbefdolkolaiaaW2
import Derived.Test.YtnbefdolkolaiaaVc3
namespace Go.Vc
open Go.Proofs
set_option linter.unusedVariables false
set_option linter.unnecessarySimpa false
set_option linter.unusedSimpArgs false
section
variable {c : Ctx} {p nid : Nat} {a b : Code} {st : St} {K : Ex → St → Prop}
def f24_c10 : Option (Int) :=
 some ((0 : Int))
def Lf24_c10 : Lp (Unit) Unit (Int) := lp0 ⟨[], [], [], []⟩ (fun _ => []) (fun _ => []) (fun _ => f24_c10)
theorem Ef24_c10 : (Lf24_c10).E () = f24_c10 := rfl
def f24_6b (r6 : Int → Option (Int)) (a0 : ByteArray) (k0 : Option (Int)) (i3 : Int) : Option (Int) :=
 bif decide (i3 < (ByteArray.size a0 : Int)) then ((idxS a0 i3).bind fun x1 =>
 bif decide (x1 < (97 : Int)) then (some ((9 : Int)))
 else ((idxS a0 i3).bind fun x2 =>
 bif decide ((122 : Int) < x2) then (some ((9 : Int)))
 else (r6 (W (i3 + (1 : Int))))))
 else k0
def f24_6 (a0 : ByteArray) (k0 : Option (Int)) : Nat → Int → Option (Int)
  | 0, _ => none
  | n + 1, i3 => f24_6b (f24_6 a0 k0 n) a0 k0 i3
def Lf24_6 (a0 : ByteArray) (k0 : Option (Int)) : Lp (Nat × Int) Unit (Int) := lp0 ⟨[0, 3], [], [], []⟩ (fun (_, i3) => [.dat (strN a0), .dat (iN i3)]) (fun (_, _) => []) (fun (n, i3) => f24_6 a0 k0 n i3)
theorem Ef24_6 {a0 k0 n i3} : (Lf24_6 a0 k0).E (n, i3) = f24_6 a0 k0 n i3 := rfl
def f24 (N : Nat) (a0 : ByteArray) : Option (Int) :=
 bif decide (a0 = emptyS) then (some ((1 : Int)))
 else (bif decide ((24 : Int) < (ByteArray.size a0 : Int)) then (some ((19 : Int)))
 else (joinK f24_c10 fun k0 =>
 f24_6 a0 k0 N (0 : Int)))
def G24 (ds : List D) (d : D) : Prop := ∃ (N : Nat) (a0 : ByteArray) (r : Int), ds = [strN a0] ∧ f24 N a0 = some r ∧ d = iN r
theorem G24.lend {N : Nat} {a0 : ByteArray} {ρ : Type} {A : Int → Option ρ} {q : ρ} {ds : List D} {K : D → Prop} (hd : ds = [strN a0]) (h : ∀ r, A r = some q → K (iN r)) (hF : (f24 N a0).bind A = some q) : ∃ d, (G24 ds d ∧ d.flatB = true) ∧ K d := by
  obtain ⟨r, hr, hA⟩ := bind_some hF
  exact ⟨_, ⟨⟨N, a0, r, hd, hr, rfl⟩, rfl⟩, h r hA⟩
set_option maxRecDepth 20000 in
set_option maxHeartbeats 4000000 in
theorem P24 : PureOK Try.prog 24 G24 := by
  refine pure_of_vc (c := mkCtx tyTree []) rfl tyOK (ctx_nil) [[0]] 1 Try.func24 rfl rfl (by decide) (by kernel_rfl) ?_
  rintro ds d ⟨N, a0, r, rfl, hF, rfl⟩ hok
  clear hok
  refine ⟨rfl, ?_⟩
  show vc _ _ _ _ ⟨[(0, .dat (strN a0))], []⟩ _
  unfold f24 at hF
  repeat' (first
    | ((with_reducible first | refine q0 _ _ ?_ | refine q1 _ _ _ _ ?_ | refine q2 _ _ _ ?_); clear Q q0 q1 q2)
    | ((with_reducible first | refine seq_op ?hx (fun Q q0 q1 q2 => ?_)); (case hx => exact rfl); conv => whnf)
    | ((with_reducible first | refine seq_off ?hx ?_ | refine seq_off0 ?hx ?_ | refine k_blk_out ?hx ?_ | refine vc_condT ?hx ?_); (case hx => exact rfl))
    | ((with_reducible refine seq_id ?_); (first | ((first | refine seq_opK rfl ?hy (fun Q q0 q1 q2 => ?_) | refine seq_opK0 rfl ?hy (fun Q q0 q1 q2 => ?_)); (case hy => first | assumption | exact notT (by assumption) | exact rfl); conv => whnf) | ((first | refine seq_offK rfl ?hy ?_ | refine seq_offK0 rfl ?hy ?_); (case hy => first | assumption | exact notF (by assumption) | exact rfl)) | (revert hF; (with_reducible first | refine seq_opF ?hx ?_ ?_ | refine seq_opF0 ?hx ?_ ?_); (case hx => exact rfl); (intro hc hF Q q0 q1 q2; conv => whnf); rotate_left; (intro hc hF); rotate_right) | (revert hF; (with_reducible first | refine seq_opN ?hx ?_ ?_ | refine seq_opN0 ?hx ?_ ?_); (case hx => exact rfl); (intro hc hF); rotate_left; (intro hc hF Q q0 q1 q2; conv => whnf); rotate_right)))
    | ((with_reducible refine cond_id ?_); (first | ((refine condKT rfl ?hy ?_); (case hy => first | assumption | exact notT (by assumption) | exact rfl)) | ((refine condKF rfl ?hy ?_); (case hy => first | assumption | exact notF (by assumption) | exact rfl)) | (revert hF; (with_reducible refine condF ?hx ?_ ?_); (case hx => exact rfl); all_goals (intro hc hF))))
    | ((with_reducible refine seq_nil ?_); (first | ((with_reducible refine hR _ ?_); clear R hR) | ((with_reducible refine hL _ ?_); clear L hL)))
    | ((with_reducible first | refine int_step ?_); conv => whnf)
    | (with_reducible first | refine vc_block ?_ | refine vc_skip ?_ | refine vc_ret ?_ | refine vc_exit ?_ | refine vc_region (fun R hR => ?_) | refine k_seq_ret ?_ | refine k_seq_exit ?_ | refine k_blk ?_ | refine k_blk_ret ?_ | refine k_blk_here ?_ | refine k_loop_ret ?_ | refine k_loop_exit ?_)
    | ((with_reducible refine vc_seqN [10] ?hx ?_); (case hx => exact rfl))
    | (revert hF; (refine Lp.cut0 Lf24_c10 f24_c10 10 rfl rfl ?_ ?_); (intro hF); rotate_left; (rintro _ hF; dsimp only [Lf24_c10] at hF; unfold f24_c10 at hF); rotate_right)
    | exact Lp.head Ef24_c10 hF () ⟨_, rfl, rfl, rfl, rfl⟩ rfl
    | (revert hF; (refine Lp.loop Ef24_6 () rfl ⟨_, rfl, rfl, rfl, rfl⟩ rfl (fun _ => rfl) ?_); rintro n i3 hF; dsimp only [Lf24_6, f24_6] at hF; unfold f24_6b at hF)
    | exact Lp.back Ef24_6 hF () ⟨_, rfl, rfl, rfl, rfl⟩ rfl
    | (revert hF; (refine idxS_step ?_); intro x hF; conv => whnf)
    | ((refine row_all ?hn ?_); (case hn => first | exact rfl | (simp; done) | (simp; omega)); conv => whnf)
    | ((with_reducible refine le_step ?hn ?_); (case hn => first | exact rfl | assumption | omega); conv => whnf)
    | ((refine ⟨?hx, ?_⟩); (case hx => exact ⟨rfl, Nat.le_of_ble_eq_true rfl, rfl⟩); conv => whnf)
    | ((with_reducible refine ex_step ?_); conv => whnf)
    | ((with_reducible refine both_T ?hx ?_); (case hx => first | exact rfl | assumption | exact notT (by assumption)); conv => whnf)
    | ((with_reducible refine both_F ?hx ?_); (case hx => first | exact rfl | assumption | exact notF (by assumption)); conv => whnf)
    | (revert hF; (with_reducible refine ite_step ?_ ?_) <;> (intro hc hF; conv => whnf))
    | ((with_reducible refine vc_condF ?hx ?_); (case hx => exact rfl))
    | (show retD _ _ _ _ _ _; conv => whnf)
    | ((refine ⟨?hx, trivial⟩); (case hx => (cases hF; exact rfl)))
    | ((refine ⟨?hx, ?_⟩); (case hx => decide); conv => whnf)
    | with_reducible refine k_seq ?_
    | (have hF : (none : Option _) = some _ := hF; cases hF))
end
end Go.Vc
namespace Go.Vc
open Go.Proofs
set_option linter.unusedVariables false
set_option linter.unnecessarySimpa false
set_option linter.unusedSimpArgs false
section
variable {c : Ctx} {p nid : Nat} {a b : Code} {st : St} {K : Ex → St → Prop}
def f30_c10 (out5 : ByteArray) : Option (ByteArray × Int) :=
 some (out5, (0 : Int))
def Lf30_c10 : Lp (ByteArray) Unit (ByteArray × Int) := lp0 ⟨[5], [], [], []⟩ (fun out5 => [.dat (strN out5)]) (fun _ => []) (fun out5 => f30_c10 out5)
theorem Ef30_c10 {out5} : (Lf30_c10).E out5 = f30_c10 out5 := rfl
def f30_6b (r6 : ByteArray → Int → Option (ByteArray × Int)) (a0 : ByteArray) (k0 : ByteArray → Option (ByteArray × Int)) (out5 : ByteArray) (i6 : Int) : Option (ByteArray × Int) :=
 bif decide (i6 < (ByteArray.size a0 : Int)) then ((subS a0 i6 (ByteArray.size a0 : Int)).bind fun x2 =>
 (subS a0 0 i6).bind fun x3 =>
 (addS x2 x3).bind fun x4 =>
 bif strLt x4 out5 then ((subS a0 i6 (ByteArray.size a0 : Int)).bind fun x5 =>
 (subS a0 0 i6).bind fun x6 =>
 (addS x5 x6).bind fun x7 =>
 r6 x7 (W (i6 + (1 : Int))))
 else (r6 out5 (W (i6 + (1 : Int)))))
 else (k0 out5)
def f30_6 (a0 : ByteArray) (k0 : ByteArray → Option (ByteArray × Int)) : Nat → ByteArray → Int → Option (ByteArray × Int)
  | 0, _, _ => none
  | n + 1, out5, i6 => f30_6b (f30_6 a0 k0 n) a0 k0 out5 i6
def Lf30_6 (a0 : ByteArray) (k0 : ByteArray → Option (ByteArray × Int)) : Lp (Nat × ByteArray × Int) Unit (ByteArray × Int) := lp0 ⟨[0, 5, 6], [], [], []⟩ (fun (_, out5, i6) => [.dat (strN a0), .dat (strN out5), .dat (iN i6)]) (fun (_, _, _) => []) (fun (n, out5, i6) => f30_6 a0 k0 n out5 i6)
theorem Ef30_6 {a0 k0 n out5 i6} : (Lf30_6 a0 k0).E (n, out5, i6) = f30_6 a0 k0 n out5 i6 := rfl
def f30 (N : Nat) (a0 : ByteArray) : Option (ByteArray × Int) :=
 (f24 N a0).bind fun x1 =>
 bif decide (¬ x1 = (0 : Int)) then (some (emptyS, x1))
 else (joinK f30_c10 fun k0 =>
 f30_6 a0 k0 N a0 (1 : Int))
def G30 (ds : List D) (d : D) : Prop := ∃ (N : Nat) (a0 : ByteArray) (r : ByteArray × Int), ds = [strN a0] ∧ f30 N a0 = some r ∧ d = .tup [strN r.1, iN r.2]
theorem G30.lend {N : Nat} {a0 : ByteArray} {ρ : Type} {A : (ByteArray × Int) → Option ρ} {q : ρ} {ds : List D} {K : D → Prop} (hd : ds = [strN a0]) (h : ∀ r, A r = some q → K (.tup [strN r.1, iN r.2])) (hF : (f30 N a0).bind A = some q) : ∃ d, (G30 ds d ∧ d.flatB = true) ∧ K d := by
  obtain ⟨r, hr, hA⟩ := bind_some hF
  exact ⟨_, ⟨⟨N, a0, r, hd, hr, rfl⟩, rfl⟩, h r hA⟩
set_option maxRecDepth 20000 in
set_option maxHeartbeats 4000000 in
theorem P30 : PureOK Try.prog 30 G30 := by
  refine pure_of_vc (c := mkCtx tyTree [(24, true, lendPg [[0]] G24)]) rfl tyOK (ctx_lend (callable Try.func24 rfl rfl) P24 (ctx_nil)) [[0], [0]] 1 Try.func30 rfl rfl (by decide) (by kernel_rfl) ?_
  rintro ds d ⟨N, a0, r, rfl, hF, rfl⟩ hok
  clear hok
  refine ⟨rfl, ?_⟩
  show vc _ _ _ _ ⟨[(0, .dat (strN a0))], []⟩ _
  unfold f30 at hF
  repeat' (first
    | ((with_reducible first | refine q0 _ _ ?_ | refine q1 _ _ _ _ ?_ | refine q2 _ _ _ ?_); clear Q q0 q1 q2)
    | ((with_reducible first | refine seq_op ?hx (fun Q q0 q1 q2 => ?_) | refine draw_op ?hx (fun Q q0 q1 q2 => ?_)); (case hx => exact rfl); conv => whnf)
    | ((with_reducible refine cond_id ?_); (first | ((refine condKT rfl ?hy ?_); (case hy => first | assumption | exact notT (by assumption) | exact rfl)) | ((refine condKF rfl ?hy ?_); (case hy => first | assumption | exact notF (by assumption) | exact rfl)) | (revert hF; (with_reducible refine condF ?hx ?_ ?_); (case hx => exact rfl); all_goals (intro hc hF))))
    | ((with_reducible refine seq_nil ?_); (first | ((with_reducible refine hR _ ?_); clear R hR) | ((with_reducible refine hL _ ?_); clear L hL)))
    | ((with_reducible refine draw_nil ?_); (with_reducible refine hR _ _ ?hx ?_); (case hx => kernel_rfl); (first | clear R hR | clear hR))
    | ((with_reducible first | refine int_step ?_); conv => whnf)
    | (with_reducible first | refine vc_block ?_ | refine vc_skip ?_ | refine vc_ret ?_ | refine vc_exit ?_ | refine vc_region (fun R hR => ?_) | refine k_seq_ret ?_ | refine k_seq_exit ?_ | refine k_blk ?_ | refine k_blk_ret ?_ | refine k_blk_here ?_ | refine k_loop_ret ?_ | refine k_loop_exit ?_)
    | ((with_reducible refine vc_seqN [10] ?hx ?_); (case hx => exact rfl))
    | ((with_reducible refine vc_draw ?hx (fun R hR => ?_)); (case hx => exact rfl))
    | (revert hF; (refine Lp.cut0 Lf30_c10 f30_c10 10 rfl rfl ?_ ?_); (intro hF); rotate_left; (rintro out5 hF; dsimp only [Lf30_c10] at hF; unfold f30_c10 at hF); rotate_right)
    | exact Lp.head Ef30_c10 hF () ⟨_, rfl, rfl, rfl, rfl⟩ rfl
    | (revert hF; (refine Lp.loop Ef30_6 () rfl ⟨_, rfl, rfl, rfl, rfl⟩ rfl (fun _ => rfl) ?_); rintro n ⟨out5, i6⟩ hF; dsimp only [Lf30_6, f30_6] at hF; unfold f30_6b at hF)
    | exact Lp.back Ef30_6 hF () ⟨_, rfl, rfl, rfl, rfl⟩ rfl
    | (revert hF; (with_reducible refine G24.lend ?hx ?_); (case hx => exact rfl); intro v hF; conv => whnf)
    | (revert hF; (refine subS_step ?_); intro x hF; conv => whnf)
    | (revert hF; (refine addS_step ?_); intro x hF; conv => whnf)
    | ((with_reducible first | refine k_blk_out ?hx ?_ | refine vc_condT ?hx ?_); (case hx => exact rfl))
    | ((refine row_all ?hn ?_); (case hn => first | exact rfl | (simp; done) | (simp; omega)); conv => whnf)
    | ((with_reducible refine le_step ?hn ?_); (case hn => first | exact rfl | assumption | omega); conv => whnf)
    | ((refine ⟨?hx, ?_⟩); (case hx => exact ⟨rfl, Nat.le_of_ble_eq_true rfl, rfl⟩); conv => whnf)
    | ((with_reducible refine ex_step ?_); conv => whnf)
    | ((with_reducible refine both_T ?hx ?_); (case hx => first | exact rfl | assumption | exact notT (by assumption)); conv => whnf)
    | ((with_reducible refine both_F ?hx ?_); (case hx => first | exact rfl | assumption | exact notF (by assumption)); conv => whnf)
    | (revert hF; (with_reducible refine ite_step ?_ ?_) <;> (intro hc hF; conv => whnf))
    | ((with_reducible refine vc_condF ?hx ?_); (case hx => exact rfl))
    | (show retD _ _ _ _ _ _; conv => whnf)
    | ((refine ⟨?hx, trivial⟩); (case hx => (cases hF; exact rfl)))
    | ((refine ⟨?hx, ?_⟩); (case hx => decide); conv => whnf)
    | with_reducible refine k_seq ?_
    | (have hF : (none : Option _) = some _ := hF; cases hF))
end
end Go.Vc
namespace Go.Vc
open Go.Proofs
set_option linter.unusedVariables false
set_option linter.unnecessarySimpa false
set_option linter.unusedSimpArgs false
section
variable {c : Ctx} {p nid : Nat} {a b : Code} {st : St} {K : Ex → St → Prop}
def f32 (N : Nat) (a0 : ByteArray) (a1 : ByteArray) : Option (Bool × Int) :=
 (f30 N a0).bind fun x1 =>
 (f30 N a1).bind fun x2 =>
 bif decide (¬ x1.2 = (0 : Int)) then (some (false, x1.2))
 else (bif decide (x2.2 = (0 : Int)) then (some (decide (x1.1 = x2.1), x2.2))
 else (some (false, x2.2)))
def G32 (ds : List D) (d : D) : Prop := ∃ (N : Nat) (a0 : ByteArray) (a1 : ByteArray) (r : Bool × Int), ds = [strN a0, strN a1] ∧ f32 N a0 a1 = some r ∧ d = .tup [bN r.1, iN r.2]
theorem G32.lend {N : Nat} {a0 : ByteArray} {a1 : ByteArray} {ρ : Type} {A : (Bool × Int) → Option ρ} {q : ρ} {ds : List D} {K : D → Prop} (hd : ds = [strN a0, strN a1]) (h : ∀ r, A r = some q → K (.tup [bN r.1, iN r.2])) (hF : (f32 N a0 a1).bind A = some q) : ∃ d, (G32 ds d ∧ d.flatB = true) ∧ K d := by
  obtain ⟨r, hr, hA⟩ := bind_some hF
  exact ⟨_, ⟨⟨N, a0, a1, r, hd, hr, rfl⟩, rfl⟩, h r hA⟩
set_option maxRecDepth 20000 in
set_option maxHeartbeats 4000000 in
theorem P32 : PureOK Try.prog 32 G32 := by
  refine pure_of_vc (c := mkCtx tyTree [(30, true, lendPg [[0]] G30)]) rfl tyOK (ctx_lend (callable Try.func30 rfl rfl) P30 (ctx_nil)) [[0], [0]] 2 Try.func32 rfl rfl (by decide) (by kernel_rfl) ?_
  rintro ds d ⟨N, a0, a1, r, rfl, hF, rfl⟩ hok
  clear hok
  refine ⟨rfl, ?_⟩
  show vc _ _ _ _ ⟨[(0, .dat (strN a0)), (1, .dat (strN a1))], []⟩ _
  unfold f32 at hF
  repeat' (first
    | ((with_reducible first | refine q0 _ _ ?_ | refine q1 _ _ _ _ ?_ | refine q2 _ _ _ ?_); clear Q q0 q1 q2)
    | ((with_reducible first | refine seq_op ?hx (fun Q q0 q1 q2 => ?_)); (case hx => exact rfl); conv => whnf)
    | ((with_reducible first | refine seq_off ?hx ?_ | refine seq_off0 ?hx ?_ | refine k_blk_out ?hx ?_ | refine vc_condT ?hx ?_); (case hx => exact rfl))
    | ((with_reducible refine seq_id ?_); (first | ((first | refine seq_opK rfl ?hy (fun Q q0 q1 q2 => ?_) | refine seq_opK0 rfl ?hy (fun Q q0 q1 q2 => ?_)); (case hy => first | assumption | exact notT (by assumption) | exact rfl); conv => whnf) | ((first | refine seq_offK rfl ?hy ?_ | refine seq_offK0 rfl ?hy ?_); (case hy => first | assumption | exact notF (by assumption) | exact rfl)) | (revert hF; (with_reducible first | refine seq_opF ?hx ?_ ?_ | refine seq_opF0 ?hx ?_ ?_); (case hx => exact rfl); (intro hc hF Q q0 q1 q2; conv => whnf); rotate_left; (intro hc hF); rotate_right) | (revert hF; (with_reducible first | refine seq_opN ?hx ?_ ?_ | refine seq_opN0 ?hx ?_ ?_); (case hx => exact rfl); (intro hc hF); rotate_left; (intro hc hF Q q0 q1 q2; conv => whnf); rotate_right)))
    | ((with_reducible refine cond_id ?_); (first | ((refine condKT rfl ?hy ?_); (case hy => first | assumption | exact notT (by assumption) | exact rfl)) | ((refine condKF rfl ?hy ?_); (case hy => first | assumption | exact notF (by assumption) | exact rfl)) | (revert hF; (with_reducible refine condF ?hx ?_ ?_); (case hx => exact rfl); all_goals (intro hc hF))))
    | ((with_reducible refine seq_nil ?_); (first | ((with_reducible refine hR _ ?_); clear R hR) | ((with_reducible refine hL _ ?_); clear L hL)))
    | ((with_reducible first | refine int_step ?_); conv => whnf)
    | (with_reducible first | refine vc_block ?_ | refine vc_skip ?_ | refine vc_ret ?_ | refine vc_exit ?_ | refine vc_region (fun R hR => ?_) | refine k_seq_ret ?_ | refine k_seq_exit ?_ | refine k_blk ?_ | refine k_blk_ret ?_ | refine k_blk_here ?_)
    | ((with_reducible refine vc_seqN [] ?hx ?_); (case hx => exact rfl))
    | (revert hF; (with_reducible refine G30.lend ?hx ?_); (case hx => exact rfl); intro v hF; conv => whnf)
    | ((refine row_all ?hn ?_); (case hn => first | exact rfl | (simp; done) | (simp; omega)); conv => whnf)
    | ((with_reducible refine le_step ?hn ?_); (case hn => first | exact rfl | assumption | omega); conv => whnf)
    | ((refine ⟨?hx, ?_⟩); (case hx => exact ⟨rfl, Nat.le_of_ble_eq_true rfl, rfl⟩); conv => whnf)
    | ((with_reducible refine ex_step ?_); conv => whnf)
    | ((with_reducible refine both_T ?hx ?_); (case hx => first | exact rfl | assumption | exact notT (by assumption)); conv => whnf)
    | ((with_reducible refine both_F ?hx ?_); (case hx => first | exact rfl | assumption | exact notF (by assumption)); conv => whnf)
    | (revert hF; (with_reducible refine ite_step ?_ ?_) <;> (intro hc hF; conv => whnf))
    | ((with_reducible refine vc_condF ?hx ?_); (case hx => exact rfl))
    | (show retD _ _ _ _ _ _; conv => whnf)
    | ((refine ⟨?hx, trivial⟩); (case hx => (cases hF; exact rfl)))
    | ((refine ⟨?hx, ?_⟩); (case hx => decide); conv => whnf)
    | with_reducible refine k_seq ?_
    | (have hF : (none : Option _) = some _ := hF; cases hF))
end
end Go.Vc
namespace Go.Vc
open Go.Proofs
set_option linter.unusedVariables false
set_option linter.unnecessarySimpa false
set_option linter.unusedSimpArgs false
section
variable {c : Ctx} {p nid : Nat} {a b : Code} {st : St} {K : Ex → St → Prop}
def f71 (N : Nat) (a0 : Int) (a1 : Int) (a2 : Int) : Option (Bool) :=
 bif decide (a1 ≤ a0) then (some (decide (a0 ≤ a2)))
 else (some (false))
def G71 (ds : List D) (d : D) : Prop := ∃ (N : Nat) (a0 : Int) (a1 : Int) (a2 : Int) (r : Bool), ds = [iN a0, iN a1, iN a2] ∧ f71 N a0 a1 a2 = some r ∧ d = bN r
theorem G71.lend {N : Nat} {a0 : Int} {a1 : Int} {a2 : Int} {ρ : Type} {A : Bool → Option ρ} {q : ρ} {ds : List D} {K : D → Prop} (hd : ds = [iN a0, iN a1, iN a2]) (h : ∀ r, A r = some q → K (bN r)) (hF : (f71 N a0 a1 a2).bind A = some q) : ∃ d, (G71 ds d ∧ d.flatB = true) ∧ K d := by
  obtain ⟨r, hr, hA⟩ := bind_some hF
  exact ⟨_, ⟨⟨N, a0, a1, a2, r, hd, hr, rfl⟩, rfl⟩, h r hA⟩
set_option maxRecDepth 20000 in
set_option maxHeartbeats 4000000 in
theorem P71 : PureOK Try.prog 71 G71 := by
  refine pure_of_vc (c := mkCtx tyTree []) rfl tyOK (ctx_nil) [[0]] 3 Try.func71 rfl rfl (by decide) (by kernel_rfl) ?_
  rintro ds d ⟨N, a0, a1, a2, r, rfl, hF, rfl⟩ hok
  clear hok
  refine ⟨rfl, ?_⟩
  show vc _ _ _ _ ⟨[(0, .dat (iN a0)), (1, .dat (iN a1)), (2, .dat (iN a2))], []⟩ _
  unfold f71 at hF
  repeat' (first
    | ((with_reducible first | refine q0 _ _ ?_ | refine q1 _ _ _ _ ?_ | refine q2 _ _ _ ?_); clear Q q0 q1 q2)
    | ((with_reducible first | refine seq_op ?hx (fun Q q0 q1 q2 => ?_)); (case hx => exact rfl); conv => whnf)
    | ((with_reducible first | refine seq_off ?hx ?_ | refine seq_off0 ?hx ?_); (case hx => exact rfl))
    | ((with_reducible refine seq_id ?_); (first | ((first | refine seq_opK rfl ?hy (fun Q q0 q1 q2 => ?_) | refine seq_opK0 rfl ?hy (fun Q q0 q1 q2 => ?_)); (case hy => first | assumption | exact notT (by assumption) | exact rfl); conv => whnf) | ((first | refine seq_offK rfl ?hy ?_ | refine seq_offK0 rfl ?hy ?_); (case hy => first | assumption | exact notF (by assumption) | exact rfl)) | (revert hF; (with_reducible first | refine seq_opF ?hx ?_ ?_ | refine seq_opF0 ?hx ?_ ?_); (case hx => exact rfl); (intro hc hF Q q0 q1 q2; conv => whnf); rotate_left; (intro hc hF); rotate_right) | (revert hF; (with_reducible first | refine seq_opN ?hx ?_ ?_ | refine seq_opN0 ?hx ?_ ?_); (case hx => exact rfl); (intro hc hF); rotate_left; (intro hc hF Q q0 q1 q2; conv => whnf); rotate_right)))
    | ((with_reducible refine seq_nil ?_); (first | ((with_reducible refine hR _ ?_); clear R hR) | ((with_reducible refine hL _ ?_); clear L hL)))
    | ((with_reducible first | refine int_step ?_); conv => whnf)
    | (with_reducible first | refine vc_skip ?_ | refine vc_ret ?_ | refine vc_region (fun R hR => ?_) | refine k_seq_ret ?_)
    | ((with_reducible refine vc_seqN [] ?hx ?_); (case hx => exact rfl))
    | ((refine row_all ?hn ?_); (case hn => first | exact rfl | (simp; done) | (simp; omega)); conv => whnf)
    | ((with_reducible refine le_step ?hn ?_); (case hn => first | exact rfl | assumption | omega); conv => whnf)
    | ((refine ⟨?hx, ?_⟩); (case hx => exact ⟨rfl, Nat.le_of_ble_eq_true rfl, rfl⟩); conv => whnf)
    | ((with_reducible refine ex_step ?_); conv => whnf)
    | ((with_reducible refine both_T ?hx ?_); (case hx => first | exact rfl | assumption | exact notT (by assumption)); conv => whnf)
    | ((with_reducible refine both_F ?hx ?_); (case hx => first | exact rfl | assumption | exact notF (by assumption)); conv => whnf)
    | (revert hF; (with_reducible refine ite_step ?_ ?_) <;> (intro hc hF; conv => whnf))
    | (show retD _ _ _ _ _ _; conv => whnf)
    | ((refine ⟨?hx, trivial⟩); (case hx => (cases hF; exact rfl)))
    | ((refine ⟨?hx, ?_⟩); (case hx => decide); conv => whnf)
    | with_reducible refine k_seq ?_
    | (have hF : (none : Option _) = some _ := hF; cases hF))
end
end Go.Vc
namespace Go.Vc
open Go.Proofs
set_option linter.unusedVariables false
set_option linter.unnecessarySimpa false
set_option linter.unusedSimpArgs false
section
variable {c : Ctx} {p nid : Nat} {a b : Code} {st : St} {K : Ex → St → Prop}
def f54 (N : Nat) (a0 : Int) (a1 : Int) (a2 : Int) : Option (Bool) :=
 (f71 N a0 a1 a2).bind fun x1 =>
 some (x1)
def G54 (ds : List D) (d : D) : Prop := ∃ (N : Nat) (a0 : Int) (a1 : Int) (a2 : Int) (r : Bool), ds = [iN a0, iN a1, iN a2] ∧ f54 N a0 a1 a2 = some r ∧ d = bN r
theorem G54.lend {N : Nat} {a0 : Int} {a1 : Int} {a2 : Int} {ρ : Type} {A : Bool → Option ρ} {q : ρ} {ds : List D} {K : D → Prop} (hd : ds = [iN a0, iN a1, iN a2]) (h : ∀ r, A r = some q → K (bN r)) (hF : (f54 N a0 a1 a2).bind A = some q) : ∃ d, (G54 ds d ∧ d.flatB = true) ∧ K d := by
  obtain ⟨r, hr, hA⟩ := bind_some hF
  exact ⟨_, ⟨⟨N, a0, a1, a2, r, hd, hr, rfl⟩, rfl⟩, h r hA⟩
set_option maxRecDepth 20000 in
set_option maxHeartbeats 4000000 in
theorem P54 : PureOK Try.prog 54 G54 := by
  refine pure_of_vc (c := mkCtx tyTree [(71, true, lendPg [[0], [0], [0]] G71)]) rfl tyOK (ctx_lend (callable Try.func71 rfl rfl) P71 (ctx_nil)) [[0]] 3 Try.func54 rfl rfl (by decide) (by kernel_rfl) ?_
  rintro ds d ⟨N, a0, a1, a2, r, rfl, hF, rfl⟩ hok
  clear hok
  refine ⟨rfl, ?_⟩
  show vc _ _ _ _ ⟨[(0, .dat (iN a0)), (1, .dat (iN a1)), (2, .dat (iN a2))], []⟩ _
  unfold f54 at hF
  repeat' (first
    | ((with_reducible first | refine q0 _ _ ?_ | refine q1 _ _ _ _ ?_ | refine q2 _ _ _ ?_); clear Q q0 q1 q2)
    | ((with_reducible first | refine seq_op ?hx (fun Q q0 q1 q2 => ?_)); (case hx => exact rfl); conv => whnf)
    | ((with_reducible refine seq_nil ?_); (first | ((with_reducible refine hR _ ?_); clear R hR) | ((with_reducible refine hL _ ?_); clear L hL)))
    | ((with_reducible first | refine int_step ?_); conv => whnf)
    | (with_reducible first | refine vc_skip ?_ | refine vc_ret ?_ | refine vc_region (fun R hR => ?_) | refine k_seq_ret ?_)
    | ((with_reducible refine vc_seqN [] ?hx ?_); (case hx => exact rfl))
    | (revert hF; (with_reducible refine G71.lend ?hx ?_); (case hx => exact rfl); intro v hF; conv => whnf)
    | ((refine row_all ?hn ?_); (case hn => first | exact rfl | (simp; done) | (simp; omega)); conv => whnf)
    | ((with_reducible refine le_step ?hn ?_); (case hn => first | exact rfl | assumption | omega); conv => whnf)
    | ((refine ⟨?hx, ?_⟩); (case hx => exact ⟨rfl, Nat.le_of_ble_eq_true rfl, rfl⟩); conv => whnf)
    | ((with_reducible refine ex_step ?_); conv => whnf)
    | ((with_reducible refine both_T ?hx ?_); (case hx => first | exact rfl | assumption | exact notT (by assumption)); conv => whnf)
    | ((with_reducible refine both_F ?hx ?_); (case hx => first | exact rfl | assumption | exact notF (by assumption)); conv => whnf)
    | (revert hF; (with_reducible refine ite_step ?_ ?_) <;> (intro hc hF; conv => whnf))
    | (show retD _ _ _ _ _ _; conv => whnf)
    | ((refine ⟨?hx, trivial⟩); (case hx => (cases hF; exact rfl)))
    | ((refine ⟨?hx, ?_⟩); (case hx => decide); conv => whnf)
    | with_reducible refine k_seq ?_
    | (have hF : (none : Option _) = some _ := hF; cases hF))
end
end Go.Vc
namespace Go.Vc
open Go.Proofs
set_option linter.unusedVariables false
set_option linter.unnecessarySimpa false
set_option linter.unusedSimpArgs false
section
variable {c : Ctx} {p nid : Nat} {a b : Code} {st : St} {K : Ex → St → Prop}
def f34_c16 (a0 : Int) (sum6 : Int) : Option (Int × Int) :=
 (chk (decide (a0 ≠ 0))).bind fun _ =>
 some (W (Int.tdiv sum6 a0), (0 : Int))
def Lf34_c16 (a0 : Int) : Lp (Int) Unit (Int × Int) := lp0 ⟨[0, 6], [], [], []⟩ (fun sum6 => [.dat (iN a0), .dat (iN sum6)]) (fun _ => []) (fun sum6 => f34_c16 a0 sum6)
theorem Ef34_c16 {a0 sum6} : (Lf34_c16 a0).E sum6 = f34_c16 a0 sum6 := rfl
def f34_c6 (a0 : Int) (a1 : Int) (i7 : Int) (r5 : Int → Int → Option (Int × Int)) (sum6' : Int) : Option (Int × Int) :=
 r5 (sum6') (W (i7 + (1 : Int)))
def Lf34_c6 (a0 : Int) (a1 : Int) (i7 : Int) (r5 : Int → Int → Option (Int × Int)) : Lp (Int) Unit (Int × Int) := lp0 ⟨[0, 1, 6, 7], [], [], []⟩ (fun sum6' => [.dat (iN a0), .dat (iN a1), .dat (iN (sum6')), .dat (iN i7)]) (fun _ => []) (fun sum6' => f34_c6 a0 a1 i7 r5 sum6')
theorem Ef34_c6 {a0 a1 i7 r5 sum6'} : (Lf34_c6 a0 a1 i7 r5).E sum6' = f34_c6 a0 a1 i7 r5 sum6' := rfl
def f34_c15 (a0 : Int) (a1 : Int) (sum6 : Int) (i7 : Int) (k1 : Int → Option (Int × Int)) (borders10 : Int) : Option (Int × Int) :=
 k1 (W (sum6 + borders10))
def Lf34_c15 (a0 : Int) (a1 : Int) (sum6 : Int) (i7 : Int) (k1 : Int → Option (Int × Int)) : Lp (Int) Unit (Int × Int) := lp0 ⟨[0, 1, 6, 7, 10], [], [], []⟩ (fun borders10 => [.dat (iN a0), .dat (iN a1), .dat (iN sum6), .dat (iN i7), .dat (iN borders10)]) (fun _ => []) (fun borders10 => f34_c15 a0 a1 sum6 i7 k1 borders10)
theorem Ef34_c15 {a0 a1 sum6 i7 k1 borders10} : (Lf34_c15 a0 a1 sum6 i7 k1).E borders10 = f34_c15 a0 a1 sum6 i7 k1 borders10 := rfl
def f34_12b (r12 : Int → Int → Option (Int × Int)) (a0 : Int) (a1 : Int) (sum6 : Int) (i7 : Int) (a8 : Int) (k2 : Int → Option (Int × Int)) (borders10 : Int) (k11 : Int) : Option (Int × Int) :=
 bif decide (k11 < a8) then (r12 (W (borders10 * a1)) (W (k11 + (1 : Int))))
 else (k2 borders10)
def f34_12 (a0 : Int) (a1 : Int) (sum6 : Int) (i7 : Int) (a8 : Int) (k2 : Int → Option (Int × Int)) : Nat → Int → Int → Option (Int × Int)
  | 0, _, _ => none
  | n + 1, borders10, k11 => f34_12b (f34_12 a0 a1 sum6 i7 a8 k2 n) a0 a1 sum6 i7 a8 k2 borders10 k11
def Lf34_12 (a0 : Int) (a1 : Int) (sum6 : Int) (i7 : Int) (a8 : Int) (k2 : Int → Option (Int × Int)) : Lp (Nat × Int × Int) Unit (Int × Int) := lp0 ⟨[0, 1, 6, 7, 8, 10, 11], [], [], []⟩ (fun (_, borders10, k11) => [.dat (iN a0), .dat (iN a1), .dat (iN sum6), .dat (iN i7), .dat (iN a8), .dat (iN borders10), .dat (iN k11)]) (fun (_, _, _) => []) (fun (n, borders10, k11) => f34_12 a0 a1 sum6 i7 a8 k2 n borders10 k11)
theorem Ef34_12 {a0 a1 sum6 i7 a8 k2 n borders10 k11} : (Lf34_12 a0 a1 sum6 i7 a8 k2).E (n, borders10, k11) = f34_12 a0 a1 sum6 i7 a8 k2 n borders10 k11 := rfl
def f34_c10 (a0 : Int) (a1 : Int) (N : Nat) (sum6 : Int) (i7 : Int) (k1 : Int → Option (Int × Int)) (a8 : Int) : Option (Int × Int) :=
 joinK (f34_c15 a0 a1 sum6 i7 k1) fun k2 =>
 f34_12 a0 a1 sum6 i7 a8 k2 N (1 : Int) (0 : Int)
def Lf34_c10 (a0 : Int) (a1 : Int) (N : Nat) (sum6 : Int) (i7 : Int) (k1 : Int → Option (Int × Int)) : Lp (Int) Unit (Int × Int) := lp0 ⟨[0, 1, 6, 7, 8], [], [], []⟩ (fun a8 => [.dat (iN a0), .dat (iN a1), .dat (iN sum6), .dat (iN i7), .dat (iN a8)]) (fun _ => []) (fun a8 => f34_c10 a0 a1 N sum6 i7 k1 a8)
theorem Ef34_c10 {a0 a1 N sum6 i7 k1 a8} : (Lf34_c10 a0 a1 N sum6 i7 k1).E a8 = f34_c10 a0 a1 N sum6 i7 k1 a8 := rfl
def f34_8b (r8 : Int → Int → Option (Int × Int)) (a0 : Int) (a1 : Int) (sum6 : Int) (i7 : Int) (k3 : Int → Option (Int × Int)) (a8 : Int) (b9 : Int) : Option (Int × Int) :=
 bif decide ((0 : Int) < b9) then ((chk (decide (b9 ≠ 0))).bind fun _ =>
 r8 b9 (Int.tmod a8 b9))
 else (k3 a8)
def f34_8 (a0 : Int) (a1 : Int) (sum6 : Int) (i7 : Int) (k3 : Int → Option (Int × Int)) : Nat → Int → Int → Option (Int × Int)
  | 0, _, _ => none
  | n + 1, a8, b9 => f34_8b (f34_8 a0 a1 sum6 i7 k3 n) a0 a1 sum6 i7 k3 a8 b9
def Lf34_8 (a0 : Int) (a1 : Int) (sum6 : Int) (i7 : Int) (k3 : Int → Option (Int × Int)) : Lp (Nat × Int × Int) Unit (Int × Int) := lp0 ⟨[0, 1, 6, 7, 8, 9], [], [], []⟩ (fun (_, a8, b9) => [.dat (iN a0), .dat (iN a1), .dat (iN sum6), .dat (iN i7), .dat (iN a8), .dat (iN b9)]) (fun (_, _, _) => []) (fun (n, a8, b9) => f34_8 a0 a1 sum6 i7 k3 n a8 b9)
theorem Ef34_8 {a0 a1 sum6 i7 k3 n a8 b9} : (Lf34_8 a0 a1 sum6 i7 k3).E (n, a8, b9) = f34_8 a0 a1 sum6 i7 k3 n a8 b9 := rfl
def f34_5b (r5 : Int → Int → Option (Int × Int)) (a0 : Int) (a1 : Int) (N : Nat) (k0 : Int → Option (Int × Int)) (sum6 : Int) (i7 : Int) : Option (Int × Int) :=
 bif decide (i7 ≤ a0) then (joinK (f34_c6 a0 a1 i7 r5) fun k1 =>
 joinK (f34_c10 a0 a1 N sum6 i7 k1) fun k3 =>
 f34_8 a0 a1 sum6 i7 k3 N a0 i7)
 else (k0 sum6)
def f34_5 (a0 : Int) (a1 : Int) (N : Nat) (k0 : Int → Option (Int × Int)) : Nat → Int → Int → Option (Int × Int)
  | 0, _, _ => none
  | n + 1, sum6, i7 => f34_5b (f34_5 a0 a1 N k0 n) a0 a1 N k0 sum6 i7
def Lf34_5 (a0 : Int) (a1 : Int) (N : Nat) (k0 : Int → Option (Int × Int)) : Lp (Nat × Int × Int) Unit (Int × Int) := lp0 ⟨[0, 1, 6, 7], [], [], []⟩ (fun (_, sum6, i7) => [.dat (iN a0), .dat (iN a1), .dat (iN sum6), .dat (iN i7)]) (fun (_, _, _) => []) (fun (n, sum6, i7) => f34_5 a0 a1 N k0 n sum6 i7)
theorem Ef34_5 {a0 a1 N k0 n sum6 i7} : (Lf34_5 a0 a1 N k0).E (n, sum6, i7) = f34_5 a0 a1 N k0 n sum6 i7 := rfl
def f34 (N : Nat) (a0 : Int) (a1 : Int) : Option (Int × Int) :=
 (f54 N a0 (1 : Int) (16 : Int)).bind fun x1 =>
 bif !x1 then (some ((0 : Int), (3 : Int)))
 else ((f54 N a1 (1 : Int) (9 : Int)).bind fun x2 =>
 bif !x2 then (some ((0 : Int), (3 : Int)))
 else (joinK (f34_c16 a0) fun k0 =>
 f34_5 a0 a1 N k0 N (0 : Int) (1 : Int)))
def G34 (ds : List D) (d : D) : Prop := ∃ (N : Nat) (a0 : Int) (a1 : Int) (r : Int × Int), ds = [iN a0, iN a1] ∧ f34 N a0 a1 = some r ∧ d = .tup [iN r.1, iN r.2]
theorem G34.lend {N : Nat} {a0 : Int} {a1 : Int} {ρ : Type} {A : (Int × Int) → Option ρ} {q : ρ} {ds : List D} {K : D → Prop} (hd : ds = [iN a0, iN a1]) (h : ∀ r, A r = some q → K (.tup [iN r.1, iN r.2])) (hF : (f34 N a0 a1).bind A = some q) : ∃ d, (G34 ds d ∧ d.flatB = true) ∧ K d := by
  obtain ⟨r, hr, hA⟩ := bind_some hF
  exact ⟨_, ⟨⟨N, a0, a1, r, hd, hr, rfl⟩, rfl⟩, h r hA⟩
set_option maxRecDepth 20000 in
set_option maxHeartbeats 4000000 in
theorem P34 : PureOK Try.prog 34 G34 := by
  refine pure_of_vc (c := mkCtx tyTree [(54, true, lendPg [[0], [0], [0]] G54)]) rfl tyOK (ctx_lend (callable Try.func54 rfl rfl) P54 (ctx_nil)) [[0], [0]] 2 Try.func34 rfl rfl (by decide) (by kernel_rfl) ?_
  rintro ds d ⟨N, a0, a1, r, rfl, hF, rfl⟩ hok
  clear hok
  refine ⟨rfl, ?_⟩
  show vc _ _ _ _ ⟨[(0, .dat (iN a0)), (1, .dat (iN a1))], []⟩ _
  unfold f34 at hF
  repeat' (first
    | ((with_reducible first | refine q0 _ _ ?_ | refine q1 _ _ _ _ ?_ | refine q2 _ _ _ ?_); clear Q q0 q1 q2)
    | ((with_reducible first | refine seq_op ?hx (fun Q q0 q1 q2 => ?_) | refine draw_op ?hx (fun Q q0 q1 q2 => ?_)); (case hx => exact rfl); conv => whnf)
    | ((with_reducible first | refine seq_off ?hx ?_ | refine seq_off0 ?hx ?_ | refine draw_off ?hx ?_ | refine draw_off0 ?hx ?_ | refine k_blk_out ?hx ?_ | refine vc_condT ?hx ?_); (case hx => exact rfl))
    | ((with_reducible refine seq_id ?_); (first | ((first | refine seq_opK rfl ?hy (fun Q q0 q1 q2 => ?_) | refine seq_opK0 rfl ?hy (fun Q q0 q1 q2 => ?_)); (case hy => first | assumption | exact notT (by assumption) | exact rfl); conv => whnf) | ((first | refine seq_offK rfl ?hy ?_ | refine seq_offK0 rfl ?hy ?_); (case hy => first | assumption | exact notF (by assumption) | exact rfl)) | (revert hF; (with_reducible first | refine seq_opF ?hx ?_ ?_ | refine seq_opF0 ?hx ?_ ?_); (case hx => exact rfl); (intro hc hF Q q0 q1 q2; conv => whnf); rotate_left; (intro hc hF); rotate_right) | (revert hF; (with_reducible first | refine seq_opN ?hx ?_ ?_ | refine seq_opN0 ?hx ?_ ?_); (case hx => exact rfl); (intro hc hF); rotate_left; (intro hc hF Q q0 q1 q2; conv => whnf); rotate_right)))
    | ((with_reducible refine cond_id ?_); (first | ((refine condKT rfl ?hy ?_); (case hy => first | assumption | exact notT (by assumption) | exact rfl)) | ((refine condKF rfl ?hy ?_); (case hy => first | assumption | exact notF (by assumption) | exact rfl)) | (revert hF; (with_reducible refine condF ?hx ?_ ?_); (case hx => exact rfl); all_goals (intro hc hF))))
    | ((with_reducible refine seq_nil ?_); (first | ((with_reducible refine hR _ ?_); clear R hR) | ((with_reducible refine hL _ ?_); clear L hL)))
    | ((with_reducible refine draw_nil ?_); (with_reducible refine hR _ _ ?hx ?_); (case hx => kernel_rfl); (first | clear R hR | clear hR))
    | ((with_reducible first | refine int_step ?_); conv => whnf)
    | (with_reducible first | refine vc_block ?_ | refine vc_skip ?_ | refine vc_ret ?_ | refine vc_exit ?_ | refine vc_region (fun R hR => ?_) | refine k_seq_ret ?_ | refine k_seq_exit ?_ | refine k_blk ?_ | refine k_blk_ret ?_ | refine k_blk_here ?_ | refine k_loop_ret ?_ | refine k_loop_exit ?_)
    | ((with_reducible refine vc_seqN [16, 6, 15, 10] ?hx ?_); (case hx => exact rfl))
    | ((with_reducible refine vc_draw ?hx (fun R hR => ?_)); (case hx => exact rfl))
    | (revert hF; (refine Lp.cut1 Lf34_c16 f34_c16 16 rfl rfl ?_ ?_); (intro hF); rotate_left; (rintro sum6 hF; dsimp only [Lf34_c16] at hF; unfold f34_c16 at hF); rotate_right)
    | exact Lp.head Ef34_c16 hF () ⟨_, rfl, rfl, rfl, rfl⟩ rfl
    | (revert hF; (refine Lp.cut4 Lf34_c6 f34_c6 6 rfl rfl ?_ ?_); (intro hF); rotate_left; (rintro sum6' hF; dsimp only [Lf34_c6] at hF; unfold f34_c6 at hF); rotate_right)
    | exact Lp.head Ef34_c6 hF () ⟨_, rfl, rfl, rfl, rfl⟩ rfl
    | (revert hF; (refine Lp.cut5 Lf34_c15 f34_c15 15 rfl rfl ?_ ?_); (intro hF); rotate_left; (rintro borders10 hF; dsimp only [Lf34_c15] at hF; unfold f34_c15 at hF); rotate_right)
    | exact Lp.head Ef34_c15 hF () ⟨_, rfl, rfl, rfl, rfl⟩ rfl
    | (revert hF; (refine Lp.loop Ef34_12 () rfl ⟨_, rfl, rfl, rfl, rfl⟩ rfl (fun _ => rfl) ?_); rintro n ⟨borders10, k11⟩ hF; dsimp only [Lf34_12, f34_12] at hF; unfold f34_12b at hF)
    | exact Lp.back Ef34_12 hF () ⟨_, rfl, rfl, rfl, rfl⟩ rfl
    | (revert hF; (refine Lp.cut6 Lf34_c10 f34_c10 10 rfl rfl ?_ ?_); (intro hF); rotate_left; (rintro a8 hF; dsimp only [Lf34_c10] at hF; unfold f34_c10 at hF); rotate_right)
    | exact Lp.head Ef34_c10 hF () ⟨_, rfl, rfl, rfl, rfl⟩ rfl
    | (revert hF; (refine Lp.loop Ef34_8 () rfl ⟨_, rfl, rfl, rfl, rfl⟩ rfl (fun _ => rfl) ?_); rintro n ⟨a8, b9⟩ hF; dsimp only [Lf34_8, f34_8] at hF; unfold f34_8b at hF)
    | exact Lp.back Ef34_8 hF () ⟨_, rfl, rfl, rfl, rfl⟩ rfl
    | (revert hF; (refine Lp.loop Ef34_5 () rfl ⟨_, rfl, rfl, rfl, rfl⟩ rfl (fun _ => rfl) ?_); rintro n ⟨sum6, i7⟩ hF; dsimp only [Lf34_5, f34_5] at hF; unfold f34_5b at hF)
    | exact Lp.back Ef34_5 hF () ⟨_, rfl, rfl, rfl, rfl⟩ rfl
    | (revert hF; (with_reducible refine G54.lend ?hx ?_); (case hx => exact rfl); intro v hF; conv => whnf)
    | ((refine row_all ?hn ?_); (case hn => first | exact rfl | (simp; done) | (simp; omega)); conv => whnf)
    | ((with_reducible refine le_step ?hn ?_); (case hn => first | exact rfl | assumption | omega); conv => whnf)
    | ((refine ⟨?hx, ?_⟩); (case hx => exact ⟨rfl, Nat.le_of_ble_eq_true rfl, rfl⟩); conv => whnf)
    | ((with_reducible refine ex_step ?_); conv => whnf)
    | ((with_reducible have hG := chk_fact hF); clear hF; (refine ⟨?hx, ?_⟩); (case hx => (first | exact of_decide_eq_true hG.1 | exact hG.1)); have hF := hG.2; clear hG; conv => whnf)
    | ((with_reducible refine both_T ?hx ?_); (case hx => first | exact rfl | assumption | exact notT (by assumption)); conv => whnf)
    | ((with_reducible refine both_F ?hx ?_); (case hx => first | exact rfl | assumption | exact notF (by assumption)); conv => whnf)
    | (revert hF; (with_reducible refine ite_step ?_ ?_) <;> (intro hc hF; conv => whnf))
    | ((with_reducible refine vc_condF ?hx ?_); (case hx => exact rfl))
    | (show retD _ _ _ _ _ _; conv => whnf)
    | ((refine ⟨?hx, trivial⟩); (case hx => (cases hF; exact rfl)))
    | ((refine ⟨?hx, ?_⟩); (case hx => decide); conv => whnf)
    | with_reducible refine k_seq ?_
    | (have hF : (none : Option _) = some _ := hF; cases hF))
end
end Go.Vc
namespace Go.Vc
open Go.Proofs
set_option linter.unusedVariables false
set_option linter.unnecessarySimpa false
set_option linter.unusedSimpArgs false
section
variable {c : Ctx} {p nid : Nat} {a b : Code} {st : St} {K : Ex → St → Prop}
def f5 (N : Nat) (a0 : ByteArray) (a1 : ByteArray) (a2 : Int) (a3 : Int) : Option (Bool) :=
 bif decide ((100 : Int) < (ByteArray.size a0 : Int)) then ((f15 N ).bind fun x1 =>
 some (x1))
 else (bif decide ((100 : Int) < (ByteArray.size a1 : Int)) then ((f15 N ).bind fun x2 =>
 some (x2))
 else ((f29 N a0).bind fun x3 =>
 (f30 N a0).bind fun x4 =>
 (f31 N a0 a1).bind fun x5 =>
 (f32 N a0 a1).bind fun x6 =>
 (f33 N a2 a3).bind fun x7 =>
 (f34 N a2 a3).bind fun x8 =>
 bif decide (x3.1 = x4.1) then (bif decide (x3.2 = x4.2) then (bif (x5.1 == x6.1) then (bif decide (x5.2 = x6.2) then (bif decide (x7.1 = x8.1) then (bif decide (x7.2 = x8.2) then ((f15 N ).bind fun x9 =>
 some (x9))
 else (some (false)))
 else (some (false)))
 else (some (false)))
 else (some (false)))
 else (some (false)))
 else (some (false))))
def G5 (ds : List D) (d : D) : Prop := ∃ (N : Nat) (a0 : ByteArray) (a1 : ByteArray) (a2 : Int) (a3 : Int) (r : Bool), ds = [strN a0, strN a1, iN a2, iN a3] ∧ f5 N a0 a1 a2 a3 = some r ∧ d = bN r
set_option maxRecDepth 20000 in
set_option maxHeartbeats 4000000 in
theorem P5 : PureOK Try.prog 5 G5 := by
  refine pure_of_vc (c := mkCtx tyTree [(34, true, lendPg [[0], [0]] G34), (33, true, lendPg [[0], [0]] G33), (32, true, lendPg [[0], [0]] G32), (31, true, lendPg [[0], [0]] G31), (30, true, lendPg [[0]] G30), (29, true, lendPg [[0]] G29), (15, true, lendPg [] G15)]) rfl tyOK (ctx_lend (callable Try.func34 rfl rfl) P34 (ctx_lend (callable Try.func33 rfl rfl) P33 (ctx_lend (callable Try.func32 rfl rfl) P32 (ctx_lend (callable Try.func31 rfl rfl) P31 (ctx_lend (callable Try.func30 rfl rfl) P30 (ctx_lend (callable Try.func29 rfl rfl) P29 (ctx_lend (callable Try.func15 rfl rfl) P15 (ctx_nil)))))))) [[0]] 4 Try.func5 rfl rfl (by decide) (by kernel_rfl) ?_
  rintro ds d ⟨N, a0, a1, a2, a3, r, rfl, hF, rfl⟩ hok
  clear hok
  refine ⟨rfl, ?_⟩
  show vc _ _ _ _ ⟨[(0, .dat (strN a0)), (1, .dat (strN a1)), (2, .dat (iN a2)), (3, .dat (iN a3))], []⟩ _
  unfold f5 at hF
  repeat' (first
    | ((with_reducible first | refine q0 _ _ ?_ | refine q1 _ _ _ _ ?_ | refine q2 _ _ _ ?_); clear Q q0 q1 q2)
    | ((with_reducible first | refine seq_op ?hx (fun Q q0 q1 q2 => ?_)); (case hx => exact rfl); conv => whnf)
    | ((with_reducible first | refine seq_off ?hx ?_ | refine seq_off0 ?hx ?_ | refine k_blk_out ?hx ?_ | refine vc_condT ?hx ?_); (case hx => exact rfl))
    | ((with_reducible refine seq_id ?_); (first | ((first | refine seq_opK rfl ?hy (fun Q q0 q1 q2 => ?_) | refine seq_opK0 rfl ?hy (fun Q q0 q1 q2 => ?_)); (case hy => first | assumption | exact notT (by assumption) | exact rfl); conv => whnf) | ((first | refine seq_offK rfl ?hy ?_ | refine seq_offK0 rfl ?hy ?_); (case hy => first | assumption | exact notF (by assumption) | exact rfl)) | (revert hF; (with_reducible first | refine seq_opF ?hx ?_ ?_ | refine seq_opF0 ?hx ?_ ?_); (case hx => exact rfl); (intro hc hF Q q0 q1 q2; conv => whnf); rotate_left; (intro hc hF); rotate_right) | (revert hF; (with_reducible first | refine seq_opN ?hx ?_ ?_ | refine seq_opN0 ?hx ?_ ?_); (case hx => exact rfl); (intro hc hF); rotate_left; (intro hc hF Q q0 q1 q2; conv => whnf); rotate_right)))
    | ((with_reducible refine cond_id ?_); (first | ((refine condKT rfl ?hy ?_); (case hy => first | assumption | exact notT (by assumption) | exact rfl)) | ((refine condKF rfl ?hy ?_); (case hy => first | assumption | exact notF (by assumption) | exact rfl)) | (revert hF; (with_reducible refine condF ?hx ?_ ?_); (case hx => exact rfl); all_goals (intro hc hF))))
    | ((with_reducible refine seq_nil ?_); (first | ((with_reducible refine hR _ ?_); clear R hR) | ((with_reducible refine hL _ ?_); clear L hL)))
    | ((with_reducible first | refine int_step ?_); conv => whnf)
    | (with_reducible first | refine vc_block ?_ | refine vc_skip ?_ | refine vc_ret ?_ | refine vc_exit ?_ | refine vc_region (fun R hR => ?_) | refine k_seq_ret ?_ | refine k_seq_exit ?_ | refine k_blk ?_ | refine k_blk_ret ?_ | refine k_blk_here ?_)
    | ((with_reducible refine vc_seqN [] ?hx ?_); (case hx => exact rfl))
    | (revert hF; (with_reducible refine G15.lend ?hx ?_); (case hx => exact rfl); intro v hF; conv => whnf)
    | (revert hF; (with_reducible refine G29.lend ?hx ?_); (case hx => exact rfl); intro v hF; conv => whnf)
    | (revert hF; (with_reducible refine G30.lend ?hx ?_); (case hx => exact rfl); intro v hF; conv => whnf)
    | (revert hF; (with_reducible refine G31.lend ?hx ?_); (case hx => exact rfl); intro v hF; conv => whnf)
    | (revert hF; (with_reducible refine G32.lend ?hx ?_); (case hx => exact rfl); intro v hF; conv => whnf)
    | (revert hF; (with_reducible refine G33.lend ?hx ?_); (case hx => exact rfl); intro v hF; conv => whnf)
    | (revert hF; (with_reducible refine G34.lend ?hx ?_); (case hx => exact rfl); intro v hF; conv => whnf)
    | ((refine row_all ?hn ?_); (case hn => first | exact rfl | (simp; done) | (simp; omega)); conv => whnf)
    | ((with_reducible refine le_step ?hn ?_); (case hn => first | exact rfl | assumption | omega); conv => whnf)
    | ((refine ⟨?hx, ?_⟩); (case hx => exact ⟨rfl, Nat.le_of_ble_eq_true rfl, rfl⟩); conv => whnf)
    | ((with_reducible refine ex_step ?_); conv => whnf)
    | ((with_reducible refine both_T ?hx ?_); (case hx => first | exact rfl | assumption | exact notT (by assumption)); conv => whnf)
    | ((with_reducible refine both_F ?hx ?_); (case hx => first | exact rfl | assumption | exact notF (by assumption)); conv => whnf)
    | (revert hF; (with_reducible refine ite_step ?_ ?_) <;> (intro hc hF; conv => whnf))
    | ((with_reducible refine vc_condF ?hx ?_); (case hx => exact rfl))
    | (show retD _ _ _ _ _ _; conv => whnf)
    | ((refine ⟨?hx, trivial⟩); (case hx => (cases hF; exact rfl)))
    | ((refine ⟨?hx, ?_⟩); (case hx => decide); conv => whnf)
    | with_reducible refine k_seq ?_
    | (have hF : (none : Option _) = some _ := hF; cases hF))
end
end Go.Vc
namespace Go.Vc
set_option linter.unusedVariables false
set_option linter.unnecessarySimpa false
set_option linter.unusedSimpArgs false
section
variable {α β σ : Type}
theorem loop_inv {F : Nat → σ → Int → Option β} {k : σ → Option β} (g : σ → Nat → σ) (Inv : Nat → σ → Prop) (len : Nat)
    (hs : ∀ n s i, i < len → Inv i s → F (n + 1) s (i : Int) = F n (g s i) ((i + 1 : Nat) : Int)) (hi : ∀ s i, i < len → Inv i s → Inv (i + 1) (g s i)) (he : ∀ n s, F (n + 1) s (len : Int) = k s) :
    ∀ n i s, i ≤ len → len - i < n → Inv i s → F n s (i : Int) = k ((List.range' i (len - i)).foldl g s) ∧ Inv len ((List.range' i (len - i)).foldl g s) := by
  intro n
  induction n with
  | zero => intro i s _ h; omega
  | succ n ih =>
    intro i s hl hn h0
    by_cases h : i = len
    · subst h
      rw [he, Nat.sub_self]; exact ⟨rfl, h0⟩
    · rw [hs n s i (by omega) h0]
      obtain ⟨h1, h2⟩ := ih (i + 1) (g s i) (by omega) (by omega) (hi s i (by omega) h0)
      rw [show len - i = (len - (i + 1)) + 1 by omega, List.range'_succ]
      exact ⟨h1, h2⟩
theorem loop_inv0 {F : Nat → σ → Int → Option β} {k : σ → Option β} (g : σ → Nat → σ) (Inv : Nat → σ → Prop) (len : Nat)
    (hs : ∀ n s i, i < len → Inv i s → F (n + 1) s (i : Int) = F n (g s i) ((i + 1 : Nat) : Int)) (hi : ∀ s i, i < len → Inv i s → Inv (i + 1) (g s i)) (he : ∀ n s, F (n + 1) s (len : Int) = k s)
    {n : Nat} {s : σ} (hn : len < n) (h0 : Inv 0 s) : F n s 0 = k ((List.range len).foldl g s) ∧ Inv len ((List.range len).foldl g s) := by
  have := loop_inv g Inv len hs hi he n 0 s (by omega) (by omega) h0
  rw [List.range_eq_range']
  simpa using this
end
end Go.Vc
namespace Go.Vc
open Go.Proofs
set_option linter.unusedVariables false
set_option linter.unnecessarySimpa false
set_option linter.unusedSimpArgs false
end Go.Vc
namespace Go.Vc
set_option linter.unusedVariables false
set_option linter.unnecessarySimpa false
set_option linter.unusedSimpArgs false
set_option linter.unusedSimpArgs false
section
variable {l m : List UInt8}
theorem S_ex (s : ByteArray) : ∃ l, s = strC l := ⟨s.data.toList, by cases s; simp [strC]⟩
@[simp] theorem strC_size : (strC l).size = l.length := by simp [strC, ByteArray.size]
@[simp] theorem strC_toList : (strC l).data.toList = l := by simp [strC]
theorem strC_inj : strC l = strC m ↔ l = m := by
  constructor
  · intro h
    have := congrArg (fun s : ByteArray => s.data.toList) h
    simpa using this
  · rintro rfl; rfl
theorem emptyS_eq : emptyS = strC [] := rfl
theorem extract_L {a b : Nat} : (strC l).extract a b = strC ((l.take b).drop a) := by
  have h : ∀ s : ByteArray, s = strC s.data.toList := fun s => by cases s; simp [strC]
  rw [h ((strC l).extract a b)]
  simp [ByteArray.data_extract, List.drop_take, strC]
theorem subS_L {a b : Nat} (h : a ≤ b) (h' : b ≤ l.length) : subS (strC l) (a : Int) (b : Int) = some (strC ((l.take b).drop a)) := by
  unfold subS
  rw [if_pos ⟨by omega, by omega, by simp; omega⟩]
  simp only [Int.toNat_natCast, subStr, extract_L]
theorem append_L : strC l ++ strC m = strC (l ++ m) := by
  have h : ∀ s : ByteArray, s = strC s.data.toList := fun s => by cases s; simp [strC]
  rw [h (strC l ++ strC m)]
  simp [strC]
theorem addS_L (h : l.length + m.length ≤ 1000000) : addS (strC l) (strC m) = some (strC (l ++ m)) := by
  unfold addS
  rw [if_pos (by simp [maxLen]; omega), append_L]
theorem byteAt_L {i : Nat} (h : i < l.length) : byteAt (strC l) i = (l[i].toNat : Int) := by
  unfold byteAt
  simp [h]
theorem idxS_L {i : Nat} (h : i < l.length) : idxS (strC l) (i : Int) = some (l[i].toNat : Int) := by
  unfold idxS
  rw [if_pos ⟨by omega, by simp; omega⟩]
  simp only [Int.toNat_natCast, byteAt_L h]
theorem toNat_inj {a b : UInt8} : (a.toNat : Int) = (b.toNat : Int) ↔ a = b := by
  constructor
  · intro h; exact UInt8.toNat_inj.1 (by omega)
  · rintro rfl; rfl
theorem rune_lo {p : Nat} (h : p < l.length) (hb : l[p].toNat < 128) : runeAt (strC l) p = ((l[p].toNat : Int), p + 1) := by
  have hs : p < (strC l).size := by simpa using h
  have he : (strC l)[p] = l[p] := by
    have h1 : byteAt (strC l) p = _ := (str_get (strC l) p hs).2.symm
    have h2 := byteAt_L h
    exact toNat_inj.1 (h1.symm.trans h2)
  unfold runeAt
  rw [decode_ascii (strC l) p hs (by rw [he]; omega)]
  simp only [he]
  rfl
theorem rune_hi {p : Nat} (h : p < l.length) (hb : 128 ≤ l[p].toNat) : 128 ≤ (runeAt (strC l) p).1 := by
  have hs : p < (strC l).size := by simpa using h
  have he : (strC l)[p] = l[p] := by
    have h1 : byteAt (strC l) p = _ := (str_get (strC l) p hs).2.symm
    have h2 := byteAt_L h
    exact toNat_inj.1 (h1.symm.trans h2)
  have := (decode_high (strC l) p hs (by rw [he]; omega)).1
  show (128 : Int) ≤ ((Utf8.decode (strC l) p).1 : Int)
  omega
end
def okb (b : UInt8) : Bool := decide (97 ≤ b.toNat) && decide (b.toNat ≤ 122)
def chk8 (l : List UInt8) : Int := if l = [] then 1 else if 24 < l.length then 19 else if l.all okb then 0 else 9
theorem drop_all {l : List UInt8} {p : Nat} (h : p < l.length) : (l.drop p).all okb = (okb l[p] && (l.drop (p + 1)).all okb) := by
  rw [List.drop_eq_getElem_cons h]; rfl
theorem okb_lo {b : UInt8} (h : (b.toNat : Int) < 97) : okb b = false := by simp [okb]; omega
theorem okb_hi {b : UInt8} (h : (122 : Int) < (b.toNat : Int)) : okb b = false := by simp [okb]; omega
theorem okb_in {b : UInt8} (h : ¬ (b.toNat : Int) < 97) (h' : ¬ (122 : Int) < (b.toNat : Int)) : okb b = true := by simp [okb]; omega
theorem f23_loop {l : List UInt8} {k0 : Option Int} : ∀ (n p : Nat), l.length - p < n → p ≤ l.length → f23_6 (strC l) k0 n p = if (l.drop p).all okb then k0 else some 9 := by
  intro n
  induction n with
  | zero => intro p h; omega
  | succ n ih =>
    intro p hn hp
    unfold f23_6 f23_6b
    by_cases h : p < l.length
    · simp only [strC_size, h, decide_true, cond_true, Option.bind_some]
      rw [drop_all h]
      by_cases hb : l[p].toNat < 128
      · rw [rune_lo h hb]
        by_cases h1 : (l[p].toNat : Int) < 97
        · simp [h1, okb_lo h1]
        · by_cases h2 : (122 : Int) < l[p].toNat
          · simp [h1, h2, okb_hi h2]
          · simp only [h1, h2, decide_false, cond_false, okb_in h1 h2, Bool.true_and]
            rw [ih (p + 1) (by omega) (by omega)]
      · have := rune_hi h (by omega)
        simp only [show ¬ (runeAt (strC l) p).1 < 97 by omega, show (122 : Int) < (runeAt (strC l) p).1 by omega, decide_false, decide_true, cond_false, cond_true]
        rw [okb_hi (by omega)]; simp
    · have : p = l.length := by omega
      subst this
      simp
theorem f24_loop {l : List UInt8} {k0 : Option Int} (hl : l.length ≤ 1000) : ∀ (n p : Nat), l.length - p < n → p ≤ l.length → f24_6 (strC l) k0 n (p : Int) = if (l.drop p).all okb then k0 else some 9 := by
  intro n
  induction n with
  | zero => intro p h; omega
  | succ n ih =>
    intro p hn hp
    unfold f24_6 f24_6b
    by_cases h : p < l.length
    · simp only [strC_size, show (p : Int) < (l.length : Int) by omega, decide_true, cond_true, idxS_L h, Option.bind_some]
      rw [drop_all h]
      by_cases h1 : (l[p].toNat : Int) < 97
      · simp [h1, okb_lo h1]
      · by_cases h2 : (122 : Int) < l[p].toNat
        · simp [h1, h2, okb_hi h2]
        · simp only [h1, h2, decide_false, cond_false, okb_in h1 h2, Bool.true_and]
          rw [W_nat (by omega), ih (p + 1) (by omega) (by omega)]
    · have : p = l.length := by omega
      subst this
      simp
theorem f23_eq {l : List UInt8} {N : Nat} (hN : 30 ≤ N) : f23 N (strC l) = some (chk8 l) := by
  unfold f23 chk8
  by_cases h : l = []
  · subst h; simp [emptyS_eq]
  · simp only [emptyS_eq, strC_inj, h, decide_false, cond_false, strC_size, if_false]
    by_cases h2 : 24 < l.length
    · simp [h2, show (24 : Int) < (l.length : Int) by omega]
    · simp only [show ¬ (24 : Int) < (l.length : Int) by omega, decide_false, cond_false, joinK]
      rw [f23_loop N 0 (by omega) (by omega)]
      simp [h2, f23_c10]
      split <;> rfl
theorem f24_eq {l : List UInt8} {N : Nat} (hN : 30 ≤ N) : f24 N (strC l) = some (chk8 l) := by
  unfold f24 chk8
  by_cases h : l = []
  · subst h; simp [emptyS_eq]
  · simp only [emptyS_eq, strC_inj, h, decide_false, cond_false, strC_size, if_false]
    by_cases h2 : 24 < l.length
    · simp [h2, show (24 : Int) < (l.length : Int) by omega]
    · simp only [show ¬ (24 : Int) < (l.length : Int) by omega, decide_false, cond_false, joinK]
      have := f24_loop (k0 := f24_c10) (l := l) (by omega) N 0 (by omega) (by omega)
      rw [show ((0 : Nat) : Int) = 0 from rfl] at this
      rw [this]
      simp [h2, f24_c10]
      split <;> rfl
theorem chk8_zero {l : List UInt8} : chk8 l = 0 ↔ l ≠ [] ∧ l.length ≤ 24 ∧ l.all okb = true := by
  unfold chk8
  by_cases h : l = [] <;> by_cases h2 : 24 < l.length <;> by_cases h3 : l.all okb = true <;> simp [h, h2, h3] <;> omega
end Go.Vc
namespace Go.Vc
open Go.Proofs
set_option linter.unusedVariables false
set_option linter.unnecessarySimpa false
set_option linter.unusedSimpArgs false
end Go.Vc
namespace Go.Vc
open Go.Proofs
set_option linter.unusedVariables false
set_option linter.unnecessarySimpa false
set_option linter.unusedSimpArgs false
end Go.Vc
namespace Go.Vc
open Go.Proofs
set_option linter.unusedVariables false
set_option linter.unnecessarySimpa false
set_option linter.unusedSimpArgs false
end Go.Vc
namespace Go.Vc
open Go.Proofs
set_option linter.unusedVariables false
set_option linter.unnecessarySimpa false
set_option linter.unusedSimpArgs false
end Go.Vc
namespace Go.Vc
open Go.Proofs
set_option linter.unusedVariables false
set_option linter.unnecessarySimpa false
set_option linter.unusedSimpArgs false
set_option linter.unusedSimpArgs false
theorem chk8_len {l : List UInt8} (h : chk8 l = 0) : l.length ≤ 24 := (chk8_zero.1 h).2.1
end Go.Vc
namespace Go.Vc
open Go.Proofs
set_option linter.unusedVariables false
set_option linter.unnecessarySimpa false
set_option linter.unusedSimpArgs false
set_option linter.unusedSimpArgs false
theorem bytesLess_lt : ∀ (x y : List UInt8), Op.bytesLess x y = decide (x < y)
  | [], [] => by simp [Op.bytesLess]
  | _ :: _, [] => by simp [Op.bytesLess]
  | [], _ :: _ => by simp [Op.bytesLess]
  | a :: x, b :: y => by
    rw [Op.bytesLess, bytesLess_lt x y]
    simp only [List.cons_lt_cons_iff]
    by_cases h1 : a < b <;> by_cases h2 : a = b <;> by_cases h3 : x < y <;> simp [h1, h2, h3]
theorem strLt_L {l m : List UInt8} : strLt (strC l) (strC m) = decide (l < m) := by
  unfold strLt
  rw [strC_toList, strC_toList, bytesLess_lt]
theorem lex_irrefl (l : List UInt8) : ¬ l < l := List.lt_irrefl l
theorem lex_tri {l m : List UInt8} (h1 : ¬ l < m) (h2 : ¬ m < l) : l = m := List.le_antisymm (List.not_lt.1 h2) (List.not_lt.1 h1)
theorem lex_asymm {l m : List UInt8} (h : l < m) : ¬ m < l := fun h' => List.lt_irrefl l (List.lt_trans h h')
theorem lex_le_trans {a b c : List UInt8} (h1 : ¬ b < a) (h2 : ¬ c < b) : ¬ c < a := by
  intro h
  by_cases h3 : a = b
  · subst h3; exact h2 h
  · have : a < b := by
      by_cases h4 : a < b
      · exact h4
      · exact absurd (lex_tri h4 h1) h3
    exact h2 (List.lt_trans h this)
def leastOf (L : List (List UInt8)) (o : List UInt8) : List UInt8 := L.foldl (fun o x => if x < o then x else o) o
theorem leastOf_spec : ∀ (L : List (List UInt8)) (o : List UInt8), (leastOf L o = o ∨ leastOf L o ∈ L) ∧ (∀ x ∈ L, ¬ x < leastOf L o) ∧ ¬ o < leastOf L o := by
  intro L
  induction L with
  | nil => intro o; exact ⟨.inl rfl, by simp, lex_irrefl o⟩
  | cons x L ih =>
    intro o
    simp only [leastOf, List.foldl_cons]
    by_cases h : x < o
    · rw [if_pos h]
      obtain ⟨h1, h2, h3⟩ := ih x
      refine ⟨.inr ?_, fun y hy => ?_, ?_⟩
      · rcases h1 with h1 | h1
        · rw [show List.foldl (fun o x => if x < o then x else o) x L = x from h1]; simp
        · exact List.mem_cons_of_mem _ h1
      · rcases List.mem_cons.1 hy with rfl | hy
        · exact h3
        · exact h2 y hy
      · exact lex_le_trans h3 (lex_asymm h)
    · rw [if_neg h]
      obtain ⟨h1, h2, h3⟩ := ih o
      refine ⟨?_, fun y hy => ?_, h3⟩
      · rcases h1 with h1 | h1
        · exact .inl h1
        · exact .inr (List.mem_cons_of_mem _ h1)
      · rcases List.mem_cons.1 hy with rfl | hy
        · exact lex_le_trans h3 h
        · exact h2 y hy
def rot (l : List UInt8) (i : Nat) : List UInt8 := l.drop i ++ l.take i
theorem rot_len {l : List UInt8} {i : Nat} : (rot l i).length = l.length := by simp [rot]; omega
theorem rot_zero {l : List UInt8} : rot l 0 = l := by simp [rot]
theorem rot_full {l : List UInt8} : rot l l.length = l := by simp [rot]
theorem rot_get {l : List UInt8} {i x : Nat} (hi : i ≤ l.length) (hx : x < l.length) : (rot l i)[x]? = l[(x + i) % l.length]? := by
  unfold rot
  by_cases h : x < l.length - i
  · rw [List.getElem?_append_left (by simp; omega), List.getElem?_drop, Nat.mod_eq_of_lt (by omega), Nat.add_comm]
  · rw [List.getElem?_append_right (by simp; omega), List.length_drop, List.getElem?_take_of_lt (by omega)]
    congr 1
    rw [Nat.mod_eq_sub_mod (by omega), Nat.mod_eq_of_lt (by omega)]
    omega
theorem rot_rot {l : List UInt8} {i j : Nat} (h : l ≠ []) (hi : i ≤ l.length) (hj : j ≤ l.length) : rot (rot l i) j = rot l ((i + j) % l.length) := by
  have hl : 0 < l.length := List.length_pos_iff.2 h
  refine List.ext_getElem? fun x => ?_
  by_cases hx : x < l.length
  · rw [rot_get (by rw [rot_len]; exact hj) (by rw [rot_len]; exact hx), rot_len, rot_get hi (Nat.mod_lt _ hl), rot_get (Nat.le_of_lt (Nat.mod_lt _ hl)) hx]
    congr 1
    rw [Nat.mod_add_mod, Nat.add_mod_mod]
    congr 1; omega
  · rw [List.getElem?_eq_none (by rw [rot_len, rot_len]; omega), List.getElem?_eq_none (by rw [rot_len]; omega)]
def Turned (l m : List UInt8) : Prop := ∃ i, i ≤ l.length ∧ m = rot l i
theorem Turned.symm {l m : List UInt8} (h : Turned l m) : Turned m l := by
  obtain ⟨i, hi, rfl⟩ := h
  by_cases h : l = []
  · subst h; exact ⟨0, by simp, by simp [rot]⟩
  · refine ⟨l.length - i, by rw [rot_len]; omega, ?_⟩
    rw [rot_rot h hi (by omega), show i + (l.length - i) = l.length by omega, Nat.mod_self, rot_zero]
theorem Turned.trans {l m k : List UInt8} (h1 : Turned l m) (h2 : Turned m k) : Turned l k := by
  obtain ⟨i, hi, rfl⟩ := h1
  obtain ⟨j, hj, rfl⟩ := h2
  rw [rot_len] at hj
  by_cases h : l = []
  · subst h; exact ⟨0, by simp, by simp [rot]⟩
  · have hl : 0 < l.length := List.length_pos_iff.2 h
    exact ⟨(i + j) % l.length, Nat.le_of_lt (Nat.mod_lt _ hl), rot_rot h hi hj⟩
theorem Turned.refl {l : List UInt8} : Turned l l := ⟨0, Nat.zero_le _, rot_zero.symm⟩
def fstN (l : List UInt8) : List UInt8 := leastOf ((List.range l.length).map (rot l)) l
theorem fstN_turned {l : List UInt8} : Turned l (fstN l) := by
  rcases (leastOf_spec ((List.range l.length).map (rot l)) l).1 with h | h
  · unfold fstN; rw [h]; exact Turned.refl
  · obtain ⟨i, hi, e⟩ := List.mem_map.1 h
    exact ⟨i, by simp at hi; omega, e.symm⟩
theorem fstN_least {l m : List UInt8} (h : Turned l m) : ¬ m < fstN l := by
  obtain ⟨hs1, hs2, hs3⟩ := leastOf_spec ((List.range l.length).map (rot l)) l
  obtain ⟨i, hi, rfl⟩ := h
  by_cases he : i = l.length
  · subst he; rw [rot_full]; exact hs3
  · exact hs2 _ (List.mem_map.2 ⟨i, by simp; omega, rfl⟩)
theorem fstN_eq {l m : List UInt8} : fstN l = fstN m ↔ Turned l m := by
  constructor
  · intro h
    exact (h ▸ fstN_turned (l := l)).trans (fstN_turned (l := m)).symm
  · intro h
    exact lex_tri (fstN_least (h.symm.trans fstN_turned)) (fstN_least (h.trans fstN_turned))
theorem addS_rot {l : List UInt8} {i : Nat} (hl : l.length ≤ 1000) : addS (strC (l.drop i)) (strC (l.take i)) = some (strC (rot l i)) := addS_L (by simp; omega)
theorem sub_end {l : List UInt8} {i : Nat} (hi : i ≤ l.length) : subS (strC l) (i : Int) (l.length : Int) = some (strC (l.drop i)) := by
  rw [subS_L hi (Nat.le_refl _), List.take_length]
theorem sub_start {l : List UInt8} {i : Nat} (hi : i ≤ l.length) : subS (strC l) 0 (i : Int) = some (strC (l.take i)) := by
  have := subS_L (l := l) (a := 0) (b := i) (by omega) hi
  simpa using this
theorem foldl_least {l : List UInt8} (L : List Nat) (o : List UInt8) : L.foldl (fun o i => if rot l i < o then rot l i else o) o = leastOf (L.map (rot l)) o := by
  unfold leastOf; rw [List.foldl_map]
theorem f29_eq {l : List UInt8} {N : Nat} (hN : 30 ≤ N) : f29 N (strC l) = some (if chk8 l = 0 then (strC (fstN l), 0) else (emptyS, chk8 l)) := by
  unfold f29
  rw [f23_eq hN]
  by_cases h : chk8 l = 0
  · have := chk8_len h
    simp only [Option.bind_some, h, not_true, decide_false, cond_false, if_true, joinK]
    have := (loop_inv0 (F := fun n (o : List UInt8) i => f29_6 (strC l) f29_c10 n (strC o) i) (k := fun o => f29_c10 (strC o)) (fun o i => if rot l i < o then rot l i else o) (fun _ _ => True) l.length
      (fun n s i hi _ => by
        conv => lhs; unfold f29_6 f29_6b
        simp only [strC_size, show (i : Int) < (l.length : Int) by omega, decide_true, cond_true]
        rw [sub_end (by omega), sub_start (by omega)]
        simp only [Option.bind_some]
        rw [addS_rot (by omega)]
        simp only [Option.bind_some, minS, strLt_L, decide_eq_true_eq]
        rw [W_nat (by omega)]
        by_cases hh : rot l i < s <;> simp only [hh, if_true, if_false])
      (fun _ _ _ _ => trivial)
      (fun n s => by
        conv => lhs; unfold f29_6 f29_6b
        simp only [strC_size, Int.lt_irrefl, decide_false, cond_false]) (n := N) (s := l) (by omega) trivial).1
    rw [this, foldl_least]
    rfl
  · simp [h]
theorem f30_eq {l : List UInt8} {N : Nat} (hN : 30 ≤ N) : f30 N (strC l) = some (if chk8 l = 0 then (strC (fstN l), 0) else (emptyS, chk8 l)) := by
  unfold f30
  rw [f24_eq hN]
  by_cases h : chk8 l = 0
  · have h24 := chk8_len h
    have h0 := List.length_pos_iff.2 (chk8_zero.1 h).1
    simp only [Option.bind_some, h, not_true, decide_false, cond_false, if_true, joinK]
    have := (loop_inv (F := fun n (o : List UInt8) i => f30_6 (strC l) f30_c10 n (strC o) i) (k := fun o => f30_c10 (strC o)) (fun o i => if rot l i < o then rot l i else o) (fun _ _ => True) l.length
      (fun n s i hi _ => by
        conv => lhs; unfold f30_6 f30_6b
        simp only [strC_size, show (i : Int) < (l.length : Int) by omega, decide_true, cond_true]
        rw [sub_end (by omega), sub_start (by omega)]
        simp only [Option.bind_some]
        rw [addS_rot (by omega)]
        simp only [Option.bind_some, strLt_L]
        rw [W_nat (by omega)]
        by_cases hh : rot l i < s <;> simp only [hh, if_true, if_false, decide_true, decide_false, cond_true, cond_false])
      (fun _ _ _ _ => trivial)
      (fun n s => by
        conv => lhs; unfold f30_6 f30_6b
        simp only [strC_size, Int.lt_irrefl, decide_false, cond_false]) N 1 l (by omega) (by omega) trivial).1
    rw [show ((1 : Nat) : Int) = 1 from rfl] at this
    rw [this, foldl_least]
    have e : leastOf ((List.range' 1 (l.length - 1)).map (rot l)) l = fstN l := by
      unfold fstN
      rw [List.range_eq_range']
      obtain ⟨m, hm⟩ : ∃ m, l.length = m + 1 := ⟨l.length - 1, by omega⟩
      rw [hm, Nat.add_sub_cancel, List.range'_succ, List.map_cons, rot_zero]
      unfold leastOf
      rw [List.foldl_cons, if_neg (lex_irrefl l)]
    rw [e]
    rfl
  · simp [h]
theorem contains_iff {s t : List UInt8} : Lib.contains s t = true ↔ ∃ i, i ≤ s.length ∧ Lib.occAt s t i = true := by
  unfold Lib.contains
  rw [decide_eq_true_eq]
  constructor
  · intro h
    rcases Lib.index_spec s t with ⟨h1, _⟩ | ⟨i, h1, h2, h3, _⟩
    · omega
    · exact ⟨i, by assumption, by assumption⟩
  · rintro ⟨i, hi, ho⟩
    rcases Lib.index_spec s t with ⟨h1, h2⟩ | ⟨i, h1, h2, h3, _⟩
    · have := h2 i hi
      rw [this] at ho; cases ho
    · omega
theorem contains_turned {l m : List UInt8} (h : l.length = m.length) : Lib.contains (l ++ l) m = true ↔ Turned l m := by
  rw [contains_iff]
  have key : ∀ i, i ≤ l.length → ((l ++ l).drop i).take l.length = rot l i := by
    intro i hi
    unfold rot
    rw [List.drop_append_of_le_length hi, List.take_append]
    congr 1
    · rw [List.take_of_length_le (by simp)]
    · congr 1
      simp; omega
  constructor
  · rintro ⟨i, hi, ho⟩
    unfold Lib.occAt at ho
    rw [List.isPrefixOf_iff_prefix] at ho
    by_cases hil : i ≤ l.length
    · refine ⟨i, hil, ?_⟩
      rw [List.prefix_iff_eq_take] at ho
      rw [ho, ← h, key i hil]
    · have := ho.length_le
      simp at this hi
      omega
  · rintro ⟨i, hi, rfl⟩
    refine ⟨i, by simp; omega, ?_⟩
    unfold Lib.occAt
    rw [List.isPrefixOf_iff_prefix, List.prefix_iff_eq_take, rot_len, key i hi]
theorem f56_eq {a b : List UInt8} {N : Nat} (ha : a.length ≤ 1000) : f56 N (strC a) (strC b) = some (Lib.contains a b) := by
  unfold f56
  rw [strC_toList, strC_toList, if_pos (by simpa using ha)]
open Classical in
noncomputable def sameR (l m : List UInt8) : Bool × Int := if chk8 l ≠ 0 then (false, chk8 l) else if chk8 m ≠ 0 then (false, chk8 m) else (decide (Turned l m), 0)
open Classical in
theorem f31_eq {l m : List UInt8} {N : Nat} (hN : 30 ≤ N) : f31 N (strC l) (strC m) = some (sameR l m) := by
  unfold f31
  obtain ⟨k, rfl⟩ : ∃ k, N = k + 3 := ⟨N - 3, by omega⟩
  simp only [joinK]
  unfold f31_2 f31_2b
  have i0 : ix [strC l, strC m] 0 = some (strC l) := rfl
  have i1 : ix [strC l, strC m] 1 = some (strC m) := rfl
  have w0 : W ((0 : Int) + 1) = 1 := by decide
  have w1 : W ((1 : Int) + 1) = 2 := by decide
  simp only [List.length_cons, List.length_nil, i0, Option.bind_some, f23_eq hN, w0]
  unfold sameR
  by_cases h1 : chk8 l = 0
  · simp only [h1, ne_eq, not_true, if_false, decide_false, cond_false]
    unfold f31_2 f31_2b
    simp only [List.length_cons, List.length_nil, i1, Option.bind_some, f23_eq hN, w1]
    by_cases h2 : chk8 m = 0
    · simp only [h2, ne_eq, not_true, if_false, decide_false, cond_false]
      unfold f31_2 f31_2b
      simp only [List.length_cons, List.length_nil]
      unfold f31_c8
      have l1 := chk8_len h1
      have l2 := chk8_len h2
      by_cases hl : l.length = m.length
      · simp only [strC_size, hl, decide_true, cond_true]
        rw [addS_L (by omega), Option.bind_some, f56_eq (by simp; omega), Option.bind_some]
        by_cases ht : Turned l m
        · rw [(contains_turned hl).2 ht, decide_eq_true ht]; rfl
        · rw [decide_eq_false ht]
          have : Lib.contains (l ++ l) m = false := by
            rw [Bool.eq_false_iff]; exact fun h => ht ((contains_turned hl).1 h)
          rw [this]; rfl
      · simp only [strC_size, show ¬ (l.length : Int) = (m.length : Int) by omega, decide_false, cond_false]
        have ht : ¬ Turned l m := by
          rintro ⟨i, _, rfl⟩
          exact hl rot_len.symm
        rw [decide_eq_false ht]; rfl
    · simp [h2]
  · simp [h1]
open Classical in
theorem f32_eq {l m : List UInt8} {N : Nat} (hN : 30 ≤ N) : f32 N (strC l) (strC m) = some (sameR l m) := by
  unfold f32 sameR
  rw [f30_eq hN, f30_eq hN]
  by_cases h1 : chk8 l = 0
  · by_cases h2 : chk8 m = 0
    · simp only [h1, h2, Option.bind_some, if_true, ne_eq, not_true, if_false, decide_false, cond_false, decide_true, cond_true, strC_inj]
      congr 2
      by_cases ht : Turned l m
      · rw [decide_eq_true ht, decide_eq_true (fstN_eq.2 ht)]
      · rw [decide_eq_false ht, decide_eq_false fun h => ht (fstN_eq.1 h)]
    · simp [h1, h2]
  · simp [h1]
end Go.Vc
namespace Go.Vc
open Go.Proofs
set_option maxRecDepth 100000
theorem t15 : f15 60 = some true := by decide +kernel
end Go.Vc
namespace Go.Vc
open Go.Proofs
set_option linter.unusedVariables false
set_option linter.unnecessarySimpa false
set_option linter.unusedSimpArgs false
set_option linter.unusedSimpArgs false
set_option maxRecDepth 100000
theorem rings_all : ∀ a : Fin 16, ∀ b : Fin 9, f33 60 ((a.val + 1 : Nat) : Int) ((b.val + 1 : Nat) : Int) = f34 60 ((a.val + 1 : Nat) : Int) ((b.val + 1 : Nat) : Int) ∧ (f33 60 ((a.val + 1 : Nat) : Int) ((b.val + 1 : Nat) : Int)).isSome = true := by decide +kernel
theorem f52_eq {N : Nat} {a b c : Int} : f52 N a b c = some (decide (a ≤ b ∧ b ≤ c)) := by
  unfold f52
  by_cases h : a ≤ b <;> simp [h]
theorem f54_eq {N : Nat} {a b c : Int} : f54 N a b c = some (decide (b ≤ a ∧ a ≤ c)) := by
  unfold f54 f71
  by_cases h : b ≤ a <;> simp [h]
theorem rings_eq (n k : Int) : ∃ r, f33 60 n k = some r ∧ f34 60 n k = some r := by
  by_cases h : (1 ≤ n ∧ n ≤ 16) ∧ (1 ≤ k ∧ k ≤ 9)
  · have := rings_all ⟨(n - 1).toNat, by omega⟩ ⟨(k - 1).toNat, by omega⟩
    simp only at this
    rw [show (((n - 1).toNat + 1 : Nat) : Int) = n by omega, show (((k - 1).toNat + 1 : Nat) : Int) = k by omega] at this
    obtain ⟨r, hr⟩ := Option.isSome_iff_exists.1 this.2
    exact ⟨r, hr, this.1 ▸ hr⟩
  · refine ⟨(0, 3), ?_, ?_⟩
    · unfold f33
      rw [f52_eq, f52_eq]
      simp only [Option.bind_some]
      rw [if_neg]
      rintro ⟨h1, h2⟩
      exact h ⟨of_decide_eq_true h1, of_decide_eq_true h2⟩
    · unfold f34
      rw [f54_eq, f54_eq]
      simp only [Option.bind_some]
      by_cases h1 : 1 ≤ n ∧ n ≤ 16
      · by_cases h2 : 1 ≤ k ∧ k ≤ 9
        · exact absurd ⟨h1, h2⟩ h
        · rw [decide_eq_true h1, decide_eq_false h2]; rfl
      · rw [decide_eq_false h1]; rfl
theorem f5_true (a0 a1 : ByteArray) (a2 a3 : Int) : f5 60 a0 a1 a2 a3 = some true := by
  obtain ⟨l, rfl⟩ := S_ex a0
  obtain ⟨m, rfl⟩ := S_ex a1
  unfold f5
  rw [t15]
  by_cases h : 100 < l.length
  · simp [show (100 : Int) < (l.length : Int) by omega]
  · by_cases h' : 100 < m.length
    · simp [show ¬ (100 : Int) < (l.length : Int) by omega, show (100 : Int) < (m.length : Int) by omega]
    · simp only [strC_size, show ¬ (100 : Int) < (l.length : Int) by omega, show ¬ (100 : Int) < (m.length : Int) by omega, decide_false, cond_false]
      obtain ⟨r, h1, h2⟩ := rings_eq a2 a3
      rw [f29_eq (by omega), f30_eq (by omega), f31_eq (by omega), f32_eq (by omega), h1, h2]
      simp
end Go.Vc
namespace Go.Vc
set_option linter.unusedVariables false
set_option linter.unnecessarySimpa false
set_option linter.unusedSimpArgs false
set_option linter.unusedSimpArgs false
abbrev tS : Ty := .str
abbrev tI : Ty := .int .i64
def i64In (n : Int) : Prop := -9223372036854775808 ≤ n ∧ n ≤ 9223372036854775807
theorem tI_of {ds : List D} (h : tI.has ds) : ∃ n, ds = [iN n] ∧ i64In n := by
  simp only [tI, Ty.has] at h
  obtain ⟨n, rfl, h⟩ := h
  exact ⟨n, rfl, by simpa [IntKind.min, IntKind.max, IntKind.signed, IntKind.bits, i64In] using h⟩
theorem tS_of {ds : List D} (h : tS.has ds) : ∃ s, ds = [strN s] := by
  simp only [tS, Ty.has] at h
  obtain ⟨s, rfl, _⟩ := h
  exact ⟨s, rfl⟩
theorem tI_ofD {x : D} (h : tI.hasD x) : ∃ n, x = iN n ∧ i64In n := by
  obtain ⟨n, h1, h2⟩ := tI_of (ds := [x]) h
  exact ⟨n, List.singleton_inj.1 h1, h2⟩
theorem tS_ofD {x : D} (h : tS.hasD x) : ∃ s, x = strN s := by
  obtain ⟨n, h1⟩ := tS_of (ds := [x]) h
  exact ⟨n, List.singleton_inj.1 h1⟩
end Go.Vc

/-
  A library for proofs about Go functions by symbolic evaluation, and plain Lean functions that the walked Go functions compute (written by a program of this claim).
-/
import Derived.Test.YtnbefdolkolaiaaW1
import Derived.Test.YtnbefdolkolaiaaW3
import Derived.Test.YtnbefdolkolaiaaVc3
namespace Go.Vc
open Go.Proofs
set_option linter.unusedVariables false
set_option linter.unnecessarySimpa false
set_option linter.unusedSimpArgs false
section
variable {c : Ctx} {p nid : Nat} {a b : Code} {st : St} {K : Ex → St → Prop}
def f24_c10 : Option (Int) :=
 some ((0 : Int))
def Lf24_c10 : Lp (Unit) Unit (Int) := lp0 ⟨[], [], [], []⟩ (fun _ => []) (fun _ => []) (fun _ => f24_c10)
theorem Ef24_c10 : (Lf24_c10).E () = f24_c10 := rfl
def f24_6b (r6 : Int → Option (Int)) (a0 : ByteArray) (k0 : Option (Int)) (i3 : Int) : Option (Int) :=
 bif decide (i3 < (ByteArray.size a0 : Int)) then ((idxS a0 i3).bind fun x1 =>
 bif decide (x1 < (97 : Int)) then (some ((9 : Int)))
 else ((idxS a0 i3).bind fun x2 =>
 bif decide ((122 : Int) < x2) then (some ((9 : Int)))
 else (r6 (W (i3 + (1 : Int))))))
 else k0
def f24_6 (a0 : ByteArray) (k0 : Option (Int)) : Nat → Int → Option (Int)
  | 0, _ => none
  | n + 1, i3 => f24_6b (f24_6 a0 k0 n) a0 k0 i3
def Lf24_6 (a0 : ByteArray) (k0 : Option (Int)) : Lp (Nat × Int) Unit (Int) := lp0 ⟨[0, 3], [], [], []⟩ (fun (_, i3) => [.dat (strN a0), .dat (iN i3)]) (fun (_, _) => []) (fun (n, i3) => f24_6 a0 k0 n i3)
theorem Ef24_6 {a0 k0 n i3} : (Lf24_6 a0 k0).E (n, i3) = f24_6 a0 k0 n i3 := rfl
def f24 (N : Nat) (a0 : ByteArray) : Option (Int) :=
 bif decide (a0 = emptyS) then (some ((1 : Int)))
 else (bif decide ((24 : Int) < (ByteArray.size a0 : Int)) then (some ((19 : Int)))
 else (joinK f24_c10 fun k0 =>
 f24_6 a0 k0 N (0 : Int)))
def G24 (ds : List D) (d : D) : Prop := ∃ (N : Nat) (a0 : ByteArray) (r : Int), ds = [strN a0] ∧ f24 N a0 = some r ∧ d = iN r
theorem G24.lend {N : Nat} {a0 : ByteArray} {ρ : Type} {A : Int → Option ρ} {q : ρ} {ds : List D} {K : D → Prop} (hd : ds = [strN a0]) (h : ∀ r, A r = some q → K (iN r)) (hF : (f24 N a0).bind A = some q) : ∃ d, (G24 ds d ∧ d.flatB = true) ∧ K d := by
  obtain ⟨r, hr, hA⟩ := bind_some hF
  exact ⟨_, ⟨⟨N, a0, r, hd, hr, rfl⟩, rfl⟩, h r hA⟩
set_option maxRecDepth 20000 in
set_option maxHeartbeats 4000000 in
theorem P24 : PureOK Try.prog 24 G24 := by
  refine pure_of_vc (c := mkCtx tyTree []) rfl tyOK (ctx_nil) [[0]] 1 Try.func24 rfl rfl (by decide) (by kernel_rfl) ?_
  rintro ds d ⟨N, a0, r, rfl, hF, rfl⟩ hok
  clear hok
  refine ⟨rfl, ?_⟩
  show vc _ _ _ _ ⟨[(0, .dat (strN a0))], []⟩ _
  unfold f24 at hF
  repeat' (first
    | ((with_reducible first | refine q0 _ _ ?_ | refine q1 _ _ _ _ ?_ | refine q2 _ _ _ ?_); clear Q q0 q1 q2)
    | ((with_reducible first | refine seq_op ?hx (fun Q q0 q1 q2 => ?_)); (case hx => exact rfl); conv => whnf)
    | ((with_reducible first | refine seq_off ?hx ?_ | refine seq_off0 ?hx ?_ | refine k_blk_out ?hx ?_ | refine vc_condT ?hx ?_); (case hx => exact rfl))
    | ((with_reducible refine seq_id ?_); (first | ((first | refine seq_opK rfl ?hy (fun Q q0 q1 q2 => ?_) | refine seq_opK0 rfl ?hy (fun Q q0 q1 q2 => ?_)); (case hy => first | assumption | exact notT (by assumption) | exact rfl); conv => whnf) | ((first | refine seq_offK rfl ?hy ?_ | refine seq_offK0 rfl ?hy ?_); (case hy => first | assumption | exact notF (by assumption) | exact rfl)) | (revert hF; (with_reducible first | refine seq_opF ?hx ?_ ?_ | refine seq_opF0 ?hx ?_ ?_); (case hx => exact rfl); (intro hc hF Q q0 q1 q2; conv => whnf); rotate_left; (intro hc hF); rotate_right) | (revert hF; (with_reducible first | refine seq_opN ?hx ?_ ?_ | refine seq_opN0 ?hx ?_ ?_); (case hx => exact rfl); (intro hc hF); rotate_left; (intro hc hF Q q0 q1 q2; conv => whnf); rotate_right)))
    | ((with_reducible refine cond_id ?_); (first | ((refine condKT rfl ?hy ?_); (case hy => first | assumption | exact notT (by assumption) | exact rfl)) | ((refine condKF rfl ?hy ?_); (case hy => first | assumption | exact notF (by assumption) | exact rfl)) | (revert hF; (with_reducible refine condF ?hx ?_ ?_); (case hx => exact rfl); all_goals (intro hc hF))))
    | ((with_reducible refine seq_nil ?_); (first | ((with_reducible refine hR _ ?_); clear R hR) | ((with_reducible refine hL _ ?_); clear L hL)))
    | ((with_reducible first | refine int_step ?_); conv => whnf)
    | (with_reducible first | refine vc_block ?_ | refine vc_skip ?_ | refine vc_ret ?_ | refine vc_exit ?_ | refine vc_region (fun R hR => ?_) | refine k_seq_ret ?_ | refine k_seq_exit ?_ | refine k_blk ?_ | refine k_blk_ret ?_ | refine k_blk_here ?_ | refine k_loop_ret ?_ | refine k_loop_exit ?_)
    | ((with_reducible refine vc_seqN [10] ?hx ?_); (case hx => exact rfl))
    | (revert hF; (refine Lp.cut0 Lf24_c10 f24_c10 10 rfl rfl ?_ ?_); (intro hF); rotate_left; (rintro _ hF; dsimp only [Lf24_c10] at hF; unfold f24_c10 at hF); rotate_right)
    | exact Lp.head Ef24_c10 hF () ⟨_, rfl, rfl, rfl, rfl⟩ rfl
    | (revert hF; (refine Lp.loop Ef24_6 () rfl ⟨_, rfl, rfl, rfl, rfl⟩ rfl (fun _ => rfl) ?_); rintro n i3 hF; dsimp only [Lf24_6, f24_6] at hF; unfold f24_6b at hF)
    | exact Lp.back Ef24_6 hF () ⟨_, rfl, rfl, rfl, rfl⟩ rfl
    | (revert hF; (refine idxS_step ?_); intro x hF; conv => whnf)
    | ((refine row_all ?hn ?_); (case hn => first | exact rfl | (simp; done) | (simp; omega)); conv => whnf)
    | ((with_reducible refine le_step ?hn ?_); (case hn => first | exact rfl | assumption | omega); conv => whnf)
    | ((refine ⟨?hx, ?_⟩); (case hx => exact ⟨rfl, Nat.le_of_ble_eq_true rfl, rfl⟩); conv => whnf)
    | ((with_reducible refine ex_step ?_); conv => whnf)
    | ((with_reducible refine both_T ?hx ?_); (case hx => first | exact rfl | assumption | exact notT (by assumption)); conv => whnf)
    | ((with_reducible refine both_F ?hx ?_); (case hx => first | exact rfl | assumption | exact notF (by assumption)); conv => whnf)
    | (revert hF; (with_reducible refine ite_step ?_ ?_) <;> (intro hc hF; conv => whnf))
    | ((with_reducible refine vc_condF ?hx ?_); (case hx => exact rfl))
    | (show retD _ _ _ _ _ _; conv => whnf)
    | ((refine ⟨?hx, trivial⟩); (case hx => (cases hF; exact rfl)))
    | ((refine ⟨?hx, ?_⟩); (case hx => decide); conv => whnf)
    | with_reducible refine k_seq ?_
    | (have hF : (none : Option _) = some _ := hF; cases hF))
end
end Go.Vc
namespace Go.Vc
open Go.Proofs
set_option linter.unusedVariables false
set_option linter.unnecessarySimpa false
set_option linter.unusedSimpArgs false
section
variable {c : Ctx} {p nid : Nat} {a b : Code} {st : St} {K : Ex → St → Prop}
def f50_c6 : Option (Bool) :=
 some (true)
def Lf50_c6 : Lp (Unit) Unit (Bool) := lp0 ⟨[], [], [], []⟩ (fun _ => []) (fun _ => []) (fun _ => f50_c6)
theorem Ef50_c6 : (Lf50_c6).E () = f50_c6 := rfl
def f50_2b (r2 : Int → Option (Bool)) (a0 : ByteArray) (a1 : Int) (k0 : Option (Bool)) (i5 : Int) : Option (Bool) :=
 bif decide ((W (i5 + a1)) < (ByteArray.size a0 : Int)) then ((idxS a0 i5).bind fun x1 =>
 (idxS a0 (W (i5 + a1))).bind fun x2 =>
 bif decide (¬ x1 = x2) then (some (false))
 else (r2 (W (i5 + (1 : Int)))))
 else k0
def f50_2 (a0 : ByteArray) (a1 : Int) (k0 : Option (Bool)) : Nat → Int → Option (Bool)
  | 0, _ => none
  | n + 1, i5 => f50_2b (f50_2 a0 a1 k0 n) a0 a1 k0 i5
def Lf50_2 (a0 : ByteArray) (a1 : Int) (k0 : Option (Bool)) : Lp (Nat × Int) Unit (Bool) := lp0 ⟨[0, 1, 5], [], [], []⟩ (fun (_, i5) => [.dat (strN a0), .dat (iN a1), .dat (iN i5)]) (fun (_, _) => []) (fun (n, i5) => f50_2 a0 a1 k0 n i5)
theorem Ef50_2 {a0 a1 k0 n i5} : (Lf50_2 a0 a1 k0).E (n, i5) = f50_2 a0 a1 k0 n i5 := rfl
def f50 (N : Nat) (a0 : ByteArray) (a1 : Int) : Option (Bool) :=
 joinK f50_c6 fun k0 =>
 f50_2 a0 a1 k0 N (0 : Int)
def G50 (ds : List D) (d : D) : Prop := ∃ (N : Nat) (a0 : ByteArray) (a1 : Int) (r : Bool), ds = [strN a0, iN a1] ∧ f50 N a0 a1 = some r ∧ d = bN r
theorem G50.lend {N : Nat} {a0 : ByteArray} {a1 : Int} {ρ : Type} {A : Bool → Option ρ} {q : ρ} {ds : List D} {K : D → Prop} (hd : ds = [strN a0, iN a1]) (h : ∀ r, A r = some q → K (bN r)) (hF : (f50 N a0 a1).bind A = some q) : ∃ d, (G50 ds d ∧ d.flatB = true) ∧ K d := by
  obtain ⟨r, hr, hA⟩ := bind_some hF
  exact ⟨_, ⟨⟨N, a0, a1, r, hd, hr, rfl⟩, rfl⟩, h r hA⟩
set_option maxRecDepth 20000 in
set_option maxHeartbeats 4000000 in
theorem P50 : PureOK Try.prog 50 G50 := by
  refine pure_of_vc (c := mkCtx tyTree []) rfl tyOK (ctx_nil) [[0]] 2 Try.func50 rfl rfl (by decide) (by kernel_rfl) ?_
  rintro ds d ⟨N, a0, a1, r, rfl, hF, rfl⟩ hok
  clear hok
  refine ⟨rfl, ?_⟩
  show vc _ _ _ _ ⟨[(0, .dat (strN a0)), (1, .dat (iN a1))], []⟩ _
  unfold f50 at hF
  repeat' (first
    | ((with_reducible first | refine q0 _ _ ?_ | refine q1 _ _ _ _ ?_ | refine q2 _ _ _ ?_); clear Q q0 q1 q2)
    | ((with_reducible first | refine seq_op ?hx (fun Q q0 q1 q2 => ?_) | refine draw_op ?hx (fun Q q0 q1 q2 => ?_)); (case hx => exact rfl); conv => whnf)
    | ((with_reducible refine cond_id ?_); (first | ((refine condKT rfl ?hy ?_); (case hy => first | assumption | exact notT (by assumption) | exact rfl)) | ((refine condKF rfl ?hy ?_); (case hy => first | assumption | exact notF (by assumption) | exact rfl)) | (revert hF; (with_reducible refine condF ?hx ?_ ?_); (case hx => exact rfl); all_goals (intro hc hF))))
    | ((with_reducible refine seq_nil ?_); (first | ((with_reducible refine hR _ ?_); clear R hR) | ((with_reducible refine hL _ ?_); clear L hL)))
    | ((with_reducible refine draw_nil ?_); (with_reducible refine hR _ _ ?hx ?_); (case hx => kernel_rfl); (first | clear R hR | clear hR))
    | ((with_reducible first | refine int_step ?_); conv => whnf)
    | (with_reducible first | refine vc_block ?_ | refine vc_skip ?_ | refine vc_ret ?_ | refine vc_exit ?_ | refine vc_region (fun R hR => ?_) | refine k_seq_ret ?_ | refine k_seq_exit ?_ | refine k_blk ?_ | refine k_blk_ret ?_ | refine k_blk_here ?_ | refine k_loop_ret ?_ | refine k_loop_exit ?_)
    | ((with_reducible refine vc_seqN [6] ?hx ?_); (case hx => exact rfl))
    | ((with_reducible refine vc_draw ?hx (fun R hR => ?_)); (case hx => exact rfl))
    | (revert hF; (refine Lp.cut0 Lf50_c6 f50_c6 6 rfl rfl ?_ ?_); (intro hF); rotate_left; (rintro _ hF; dsimp only [Lf50_c6] at hF; unfold f50_c6 at hF); rotate_right)
    | exact Lp.head Ef50_c6 hF () ⟨_, rfl, rfl, rfl, rfl⟩ rfl
    | (revert hF; (refine Lp.loop Ef50_2 () rfl ⟨_, rfl, rfl, rfl, rfl⟩ rfl (fun _ => rfl) ?_); rintro n i5 hF; dsimp only [Lf50_2, f50_2] at hF; unfold f50_2b at hF)
    | exact Lp.back Ef50_2 hF () ⟨_, rfl, rfl, rfl, rfl⟩ rfl
    | (revert hF; (refine idxS_step ?_); intro x hF; conv => whnf)
    | ((with_reducible first | refine k_blk_out ?hx ?_ | refine vc_condT ?hx ?_); (case hx => exact rfl))
    | ((refine row_all ?hn ?_); (case hn => first | exact rfl | (simp; done) | (simp; omega)); conv => whnf)
    | ((with_reducible refine le_step ?hn ?_); (case hn => first | exact rfl | assumption | omega); conv => whnf)
    | ((refine ⟨?hx, ?_⟩); (case hx => exact ⟨rfl, Nat.le_of_ble_eq_true rfl, rfl⟩); conv => whnf)
    | ((with_reducible refine ex_step ?_); conv => whnf)
    | ((with_reducible refine both_T ?hx ?_); (case hx => first | exact rfl | assumption | exact notT (by assumption)); conv => whnf)
    | ((with_reducible refine both_F ?hx ?_); (case hx => first | exact rfl | assumption | exact notF (by assumption)); conv => whnf)
    | (revert hF; (with_reducible refine ite_step ?_ ?_) <;> (intro hc hF; conv => whnf))
    | ((with_reducible refine vc_condF ?hx ?_); (case hx => exact rfl))
    | (show retD _ _ _ _ _ _; conv => whnf)
    | ((refine ⟨?hx, trivial⟩); (case hx => (cases hF; exact rfl)))
    | ((refine ⟨?hx, ?_⟩); (case hx => decide); conv => whnf)
    | with_reducible refine k_seq ?_
    | (have hF : (none : Option _) = some _ := hF; cases hF))
end
end Go.Vc
namespace Go.Vc
open Go.Proofs
set_option linter.unusedVariables false
set_option linter.unnecessarySimpa false
set_option linter.unusedSimpArgs false
section
variable {c : Ctx} {p nid : Nat} {a b : Code} {st : St} {K : Ex → St → Prop}
def f49_c7 (out3 : List Int) : Option ((List Int)) :=
 some (out3)
def Lf49_c7 : Lp ((List Int)) (Nat) ((List Int)) := ⟨⟨[3], [90003], [(.slot 3, 90003, 3, 1)], []⟩, fun out3 => [.rs 90003 (List.length out3)], fun out3 => [.row 3 1 (List.map iN out3)], fun out3 => f49_c7 out3, fun _ m0 => [.rs 90003 m0], fun out3 _ => [.row 3 1 (List.map iN out3)], fun out3 => List.length out3, fun _ => rfl, fun _ => rfl⟩
theorem Ef49_c7 {out3} : (Lf49_c7).E out3 = f49_c7 out3 := rfl
def f49_3b (r3 : (List Int) → Int → Option ((List Int))) (a0 : ByteArray) (N : Nat) (k0 : (List Int) → Option ((List Int))) (out3 : List Int) (p4 : Int) : Option ((List Int)) :=
 bif decide (p4 ≤ (ByteArray.size a0 : Int)) then ((f50 N a0 p4).bind fun x1 =>
 bif x1 then ((app 8 out3 [p4]).bind fun x2 =>
 r3 x2 (W (p4 + (1 : Int))))
 else (r3 out3 (W (p4 + (1 : Int)))))
 else (k0 out3)
def f49_3 (a0 : ByteArray) (N : Nat) (k0 : (List Int) → Option ((List Int))) : Nat → (List Int) → Int → Option ((List Int))
  | 0, _, _ => none
  | n + 1, out3, p4 => f49_3b (f49_3 a0 N k0 n) a0 N k0 out3 p4
def Lf49_3 (a0 : ByteArray) (N : Nat) (k0 : (List Int) → Option ((List Int))) : Lp (Nat × (List Int) × Int) (Nat) ((List Int)) := ⟨⟨[0, 3, 4], [90003], [(.slot 3, 90003, 3, 1)], []⟩, fun (_, out3, p4) => [.dat (strN a0), .rs 90003 (List.length out3), .dat (iN p4)], fun (_, out3, _) => [.row 3 1 (List.map iN out3)], fun (n, out3, p4) => f49_3 a0 N k0 n out3 p4, fun (_, _, p4) m0 => [.dat (strN a0), .rs 90003 m0, .dat (iN p4)], fun (_, out3, _) _ => [.row 3 1 (List.map iN out3)], fun (_, out3, _) => List.length out3, fun _ => rfl, fun _ => rfl⟩
theorem Ef49_3 {a0 N k0 n out3 p4} : (Lf49_3 a0 N k0).E (n, out3, p4) = f49_3 a0 N k0 n out3 p4 := rfl
def f49 (N : Nat) (a0 : ByteArray) : Option ((List Int)) :=
 joinK f49_c7 fun k0 =>
 f49_3 a0 N k0 N [] (1 : Int)
def G49 (ds : List D) (d : D) : Prop := ∃ (N : Nat) (a0 : ByteArray) (r : (List Int)), ds = [strN a0] ∧ f49 N a0 = some r ∧ d = sl_iN r
theorem G49.step {N : Nat} {a0 : ByteArray} {ρ : Type} {A : (List Int) → Option ρ} {q : ρ} {ds : List D} {K : D → Prop} (hd : ds = [strN a0]) (h : ∀ r, A r = some q → K (sl_iN r)) (hF : (f49 N a0).bind A = some q) : ∃ d, G49 ds d ∧ K d := by
  obtain ⟨r, hr, hA⟩ := bind_some hF
  exact ⟨_, ⟨N, a0, r, hd, hr, rfl⟩, h r hA⟩
set_option maxRecDepth 20000 in
set_option maxHeartbeats 4000000 in
theorem P49 : PureOK Try.prog 49 G49 := by
  refine pure_of_vc (c := mkCtx tyTree [(50, true, lendPg [[0], [0]] G50)]) rfl tyOK (ctx_lend (callable Try.func50 rfl rfl) P50 (ctx_nil)) [[1]] 1 Try.func49 rfl rfl (by decide) (by kernel_rfl) ?_
  rintro ds d ⟨N, a0, r, rfl, hF, rfl⟩ hok
  clear hok
  refine ⟨rfl, ?_⟩
  show vc _ _ _ _ ⟨[(0, .dat (strN a0))], []⟩ _
  unfold f49 at hF
  repeat' (first
    | ((with_reducible first | refine q0 _ _ ?_ | refine q1 _ _ _ _ ?_ | refine q2 _ _ _ ?_); clear Q q0 q1 q2)
    | ((with_reducible first | refine seq_op ?hx (fun Q q0 q1 q2 => ?_)); (case hx => exact rfl); conv => whnf)
    | ((with_reducible refine cond_id ?_); (first | ((refine condKT rfl ?hy ?_); (case hy => first | assumption | exact notT (by assumption) | exact rfl)) | ((refine condKF rfl ?hy ?_); (case hy => first | assumption | exact notF (by assumption) | exact rfl)) | (revert hF; (with_reducible refine condF ?hx ?_ ?_); (case hx => exact rfl); all_goals (intro hc hF))))
    | ((with_reducible refine seq_nil ?_); (first | ((with_reducible refine hR _ ?_); clear R hR) | ((with_reducible refine hL _ ?_); clear L hL)))
    | ((with_reducible first | refine int_step ?_ | refine len_step ?_); conv => whnf)
    | (with_reducible first | refine vc_block ?_ | refine vc_skip ?_ | refine vc_ret ?_ | refine vc_exit ?_ | refine vc_region (fun R hR => ?_) | refine k_seq_ret ?_ | refine k_seq_exit ?_ | refine k_blk ?_ | refine k_blk_ret ?_ | refine k_blk_here ?_ | refine k_loop_ret ?_ | refine k_loop_exit ?_)
    | ((with_reducible refine vc_seqN [7] ?hx ?_); (case hx => exact rfl))
    | (revert hF; (refine Lp.cut0 Lf49_c7 f49_c7 7 rfl rfl ?_ ?_); (intro hF); rotate_left; (rintro out3 hF; dsimp only [Lf49_c7] at hF; unfold f49_c7 at hF); rotate_right)
    | exact Lp.head Ef49_c7 hF _ ⟨_, rfl, rfl, rfl, rfl⟩ (by first | exact rfl | ((try dsimp only [Lf49_c7]); first | assumption | omega | (simp only [List.length_set]; done)))
    | (revert hF; (refine Lp.loop Ef49_3 _ rfl ⟨_, rfl, rfl, rfl, rfl⟩ (by first | exact rfl | ((try dsimp only [Lf49_3]); first | assumption | omega | (simp only [List.length_set]; done))) (fun _ => rfl) ?_); rintro n ⟨out3, p4⟩ hF; dsimp only [Lf49_3, f49_3] at hF; unfold f49_3b at hF)
    | exact Lp.back Ef49_3 hF _ ⟨_, rfl, rfl, rfl, rfl⟩ (by first | exact rfl | ((try dsimp only [Lf49_3]); first | assumption | omega | (simp only [List.length_set]; done)))
    | (revert hF; (with_reducible refine G50.lend ?hx ?_); (case hx => exact rfl); intro v hF; conv => whnf)
    | ((with_reducible first | refine k_blk_out ?hx ?_ | refine vc_condT ?hx ?_); (case hx => exact rfl))
    | ((with_reducible have hG := app_fact hF); clear hF; (first | ((refine app_row hG ?hn ?hs (fun q hF => ?_)); (case hn => first | exact rfl | assumption | omega); (case hs => exact rfl)) | ((refine app_nil (d := iN) hG ?hs (fun q hF => ?_)); (case hs => exact rfl)) | ((refine app_gen (d := iN) hG ?ho ?hn ?hs (fun q hF => ?_)); (case ho => exact rfl); (case hn => exact rfl); (case hs => exact rfl))); clear hG; conv => whnf)
    | ((refine row_all ?hn ?_); (case hn => first | exact rfl | (simp; done) | (simp; omega)); conv => whnf)
    | ((with_reducible refine le_step ?hn ?_); (case hn => first | exact rfl | assumption | omega); conv => whnf)
    | ((refine ⟨?hx, ?_⟩); (case hx => exact ⟨rfl, Nat.le_of_ble_eq_true rfl, rfl⟩); conv => whnf)
    | ((with_reducible refine ex_step ?_); conv => whnf)
    | ((with_reducible refine both_T ?hx ?_); (case hx => first | exact rfl | assumption | exact notT (by assumption)); conv => whnf)
    | ((with_reducible refine both_F ?hx ?_); (case hx => first | exact rfl | assumption | exact notF (by assumption)); conv => whnf)
    | (revert hF; (with_reducible refine ite_step ?_ ?_) <;> (intro hc hF; conv => whnf))
    | ((with_reducible refine vc_condF ?hx ?_); (case hx => exact rfl))
    | (show retD _ _ _ _ _ _; conv => whnf)
    | ((refine ⟨?hx, trivial⟩); (case hx => (cases hF; exact rfl)))
    | ((refine ⟨?hx, ?_⟩); (case hx => decide); conv => whnf)
    | with_reducible refine k_seq ?_
    | (have hF : (none : Option _) = some _ := hF; cases hF))
end
end Go.Vc
namespace Go.Vc
open Go.Proofs
set_option linter.unusedVariables false
set_option linter.unnecessarySimpa false
set_option linter.unusedSimpArgs false
section
variable {c : Ctx} {p nid : Nat} {a b : Code} {st : St} {K : Ex → St → Prop}
def f17 (N : Nat) (a0 : ByteArray) : Option ((List Int) × Int) :=
 (f24 N a0).bind fun x1 =>
 bif decide (¬ x1 = (0 : Int)) then (some ([], x1))
 else ((f49 N a0).bind fun x2 =>
 some (x2, (0 : Int)))
def G17 (ds : List D) (d : D) : Prop := ∃ (N : Nat) (a0 : ByteArray) (r : (List Int) × Int), ds = [strN a0] ∧ f17 N a0 = some r ∧ d = .tup [sl_iN r.1, iN r.2]
theorem G17.step {N : Nat} {a0 : ByteArray} {ρ : Type} {A : ((List Int) × Int) → Option ρ} {q : ρ} {ds : List D} {K : D → Prop} (hd : ds = [strN a0]) (h : ∀ r, A r = some q → K (.tup [sl_iN r.1, iN r.2])) (hF : (f17 N a0).bind A = some q) : ∃ d, G17 ds d ∧ K d := by
  obtain ⟨r, hr, hA⟩ := bind_some hF
  exact ⟨_, ⟨N, a0, r, hd, hr, rfl⟩, h r hA⟩
set_option maxRecDepth 20000 in
set_option maxHeartbeats 4000000 in
theorem P17 : PureOK Try.prog 17 G17 := by
  refine pure_of_vc (c := mkCtx tyTree [(49, true, purePg [[0]] G49), (24, true, lendPg [[0]] G24)]) rfl tyOK (ctx_cons (callable Try.func49 rfl rfl) P49 (ctx_lend (callable Try.func24 rfl rfl) P24 (ctx_nil))) [[1], [0]] 1 Try.func17 rfl rfl (by decide) (by kernel_rfl) ?_
  rintro ds d ⟨N, a0, r, rfl, hF, rfl⟩ hok
  clear hok
  refine ⟨rfl, ?_⟩
  show vc _ _ _ _ ⟨[(0, .dat (strN a0))], []⟩ _
  unfold f17 at hF
  repeat' (first
    | ((with_reducible first | refine q0 _ _ ?_ | refine q1 _ _ _ _ ?_ | refine q2 _ _ _ ?_); clear Q q0 q1 q2)
    | ((with_reducible first | refine seq_op ?hx (fun Q q0 q1 q2 => ?_)); (case hx => exact rfl); conv => whnf)
    | ((with_reducible refine cond_id ?_); (first | ((refine condKT rfl ?hy ?_); (case hy => first | assumption | exact notT (by assumption) | exact rfl)) | ((refine condKF rfl ?hy ?_); (case hy => first | assumption | exact notF (by assumption) | exact rfl)) | (revert hF; (with_reducible refine condF ?hx ?_ ?_); (case hx => exact rfl); all_goals (intro hc hF))))
    | ((with_reducible refine seq_nil ?_); (first | ((with_reducible refine hR _ ?_); clear R hR) | ((with_reducible refine hL _ ?_); clear L hL)))
    | ((with_reducible first | refine int_step ?_); conv => whnf)
    | (with_reducible first | refine vc_block ?_ | refine vc_skip ?_ | refine vc_ret ?_ | refine vc_exit ?_ | refine vc_region (fun R hR => ?_) | refine k_seq_ret ?_ | refine k_seq_exit ?_ | refine k_blk ?_ | refine k_blk_ret ?_ | refine k_blk_here ?_)
    | ((with_reducible refine vc_seqN [] ?hx ?_); (case hx => exact rfl))
    | (revert hF; (with_reducible refine G24.lend ?hx ?_); (case hx => exact rfl); intro v hF; conv => whnf)
    | (revert hF; (with_reducible refine G49.step ?hx ?_); (case hx => exact rfl); intro v hF; conv => whnf)
    | ((with_reducible first | refine k_blk_out ?hx ?_ | refine vc_condT ?hx ?_); (case hx => exact rfl))
    | ((refine row_all ?hn ?_); (case hn => first | exact rfl | (simp; done) | (simp; omega)); conv => whnf)
    | ((with_reducible refine le_step ?hn ?_); (case hn => first | exact rfl | assumption | omega); conv => whnf)
    | ((refine ⟨?hx, ?_⟩); (case hx => exact ⟨rfl, Nat.le_of_ble_eq_true rfl, rfl⟩); conv => whnf)
    | ((with_reducible refine ex_step ?_); conv => whnf)
    | ((with_reducible refine both_T ?hx ?_); (case hx => first | exact rfl | assumption | exact notT (by assumption)); conv => whnf)
    | ((with_reducible refine both_F ?hx ?_); (case hx => first | exact rfl | assumption | exact notF (by assumption)); conv => whnf)
    | (revert hF; (with_reducible refine ite_step ?_ ?_) <;> (intro hc hF; conv => whnf))
    | ((with_reducible refine vc_condF ?hx ?_); (case hx => exact rfl))
    | (show retD _ _ _ _ _ _; conv => whnf)
    | ((refine ⟨?hx, trivial⟩); (case hx => (cases hF; exact rfl)))
    | ((refine ⟨?hx, ?_⟩); (case hx => decide); conv => whnf)
    | with_reducible refine k_seq ?_
    | (have hF : (none : Option _) = some _ := hF; cases hF))
end
end Go.Vc
namespace Go.Vc
open Go.Proofs
set_option linter.unusedVariables false
set_option linter.unnecessarySimpa false
set_option linter.unusedSimpArgs false
section
variable {c : Ctx} {p nid : Nat} {a b : Code} {st : St} {K : Ex → St → Prop}
def f19_c7 (a0 : ByteArray) (p6 : Int) : Option (ByteArray × Int × Int) :=
 (subS a0 0 p6).bind fun x2 =>
 (chk (decide (p6 ≠ 0))).bind fun _ =>
 some (x2, W (Int.tdiv (ByteArray.size a0 : Int) p6), (0 : Int))
def Lf19_c7 (a0 : ByteArray) : Lp (Int) Unit (ByteArray × Int × Int) := lp0 ⟨[0, 6], [], [], []⟩ (fun p6 => [.dat (strN a0), .dat (iN p6)]) (fun _ => []) (fun p6 => f19_c7 a0 p6)
theorem Ef19_c7 {a0 p6} : (Lf19_c7 a0).E p6 = f19_c7 a0 p6 := rfl
def f19_5b (r5 : Int → Option (ByteArray × Int × Int)) (a0 : ByteArray) (N : Nat) (k0 : Int → Option (ByteArray × Int × Int)) (p6 : Int) : Option (ByteArray × Int × Int) :=
 (chk (decide (p6 ≠ 0))).bind fun _ =>
 bif decide (¬ (Int.tmod (ByteArray.size a0 : Int) p6) = (0 : Int)) then (r5 (W (p6 + (1 : Int))))
 else ((f50 N a0 p6).bind fun x3 =>
 bif !x3 then (r5 (W (p6 + (1 : Int))))
 else (k0 p6))
def f19_5 (a0 : ByteArray) (N : Nat) (k0 : Int → Option (ByteArray × Int × Int)) : Nat → Int → Option (ByteArray × Int × Int)
  | 0, _ => none
  | n + 1, p6 => f19_5b (f19_5 a0 N k0 n) a0 N k0 p6
def Lf19_5 (a0 : ByteArray) (N : Nat) (k0 : Int → Option (ByteArray × Int × Int)) : Lp (Nat × Int) Unit (ByteArray × Int × Int) := lp0 ⟨[0, 6], [], [], []⟩ (fun (_, p6) => [.dat (strN a0), .dat (iN p6)]) (fun (_, _) => []) (fun (n, p6) => f19_5 a0 N k0 n p6)
theorem Ef19_5 {a0 N k0 n p6} : (Lf19_5 a0 N k0).E (n, p6) = f19_5 a0 N k0 n p6 := rfl
def f19 (N : Nat) (a0 : ByteArray) : Option (ByteArray × Int × Int) :=
 (f24 N a0).bind fun x1 =>
 bif decide (¬ x1 = (0 : Int)) then (some (emptyS, (0 : Int), x1))
 else (joinK (f19_c7 a0) fun k0 =>
 f19_5 a0 N k0 N (1 : Int))
def G19 (ds : List D) (d : D) : Prop := ∃ (N : Nat) (a0 : ByteArray) (r : ByteArray × Int × Int), ds = [strN a0] ∧ f19 N a0 = some r ∧ d = .tup [strN r.1, iN r.2.1, iN r.2.2]
theorem G19.lend {N : Nat} {a0 : ByteArray} {ρ : Type} {A : (ByteArray × Int × Int) → Option ρ} {q : ρ} {ds : List D} {K : D → Prop} (hd : ds = [strN a0]) (h : ∀ r, A r = some q → K (.tup [strN r.1, iN r.2.1, iN r.2.2])) (hF : (f19 N a0).bind A = some q) : ∃ d, (G19 ds d ∧ d.flatB = true) ∧ K d := by
  obtain ⟨r, hr, hA⟩ := bind_some hF
  exact ⟨_, ⟨⟨N, a0, r, hd, hr, rfl⟩, rfl⟩, h r hA⟩
set_option maxRecDepth 20000 in
set_option maxHeartbeats 4000000 in
theorem P19 : PureOK Try.prog 19 G19 := by
  refine pure_of_vc (c := mkCtx tyTree [(50, true, lendPg [[0], [0]] G50), (24, true, lendPg [[0]] G24)]) rfl tyOK (ctx_lend (callable Try.func50 rfl rfl) P50 (ctx_lend (callable Try.func24 rfl rfl) P24 (ctx_nil))) [[0], [0], [0]] 1 Try.func19 rfl rfl (by decide) (by kernel_rfl) ?_
  rintro ds d ⟨N, a0, r, rfl, hF, rfl⟩ hok
  clear hok
  refine ⟨rfl, ?_⟩
  show vc _ _ _ _ ⟨[(0, .dat (strN a0))], []⟩ _
  unfold f19 at hF
  repeat' (first
    | ((with_reducible first | refine q0 _ _ ?_ | refine q1 _ _ _ _ ?_ | refine q2 _ _ _ ?_); clear Q q0 q1 q2)
    | ((with_reducible first | refine seq_op ?hx (fun Q q0 q1 q2 => ?_) | refine draw_op ?hx (fun Q q0 q1 q2 => ?_)); (case hx => exact rfl); conv => whnf)
    | ((with_reducible first | refine seq_off ?hx ?_ | refine seq_off0 ?hx ?_ | refine draw_off ?hx ?_ | refine draw_off0 ?hx ?_ | refine k_blk_out ?hx ?_ | refine vc_condT ?hx ?_); (case hx => exact rfl))
    | ((with_reducible refine seq_id ?_); (first | ((first | refine seq_opK rfl ?hy (fun Q q0 q1 q2 => ?_) | refine seq_opK0 rfl ?hy (fun Q q0 q1 q2 => ?_)); (case hy => first | assumption | exact notT (by assumption) | exact rfl); conv => whnf) | ((first | refine seq_offK rfl ?hy ?_ | refine seq_offK0 rfl ?hy ?_); (case hy => first | assumption | exact notF (by assumption) | exact rfl)) | (revert hF; (with_reducible first | refine seq_opF ?hx ?_ ?_ | refine seq_opF0 ?hx ?_ ?_); (case hx => exact rfl); (intro hc hF Q q0 q1 q2; conv => whnf); rotate_left; (intro hc hF); rotate_right) | (revert hF; (with_reducible first | refine seq_opN ?hx ?_ ?_ | refine seq_opN0 ?hx ?_ ?_); (case hx => exact rfl); (intro hc hF); rotate_left; (intro hc hF Q q0 q1 q2; conv => whnf); rotate_right)))
    | ((with_reducible refine cond_id ?_); (first | ((refine condKT rfl ?hy ?_); (case hy => first | assumption | exact notT (by assumption) | exact rfl)) | ((refine condKF rfl ?hy ?_); (case hy => first | assumption | exact notF (by assumption) | exact rfl)) | (revert hF; (with_reducible refine condF ?hx ?_ ?_); (case hx => exact rfl); all_goals (intro hc hF))))
    | ((with_reducible refine seq_nil ?_); (first | ((with_reducible refine hR _ ?_); clear R hR) | ((with_reducible refine hL _ ?_); clear L hL)))
    | ((with_reducible refine draw_nil ?_); (with_reducible refine hR _ _ ?hx ?_); (case hx => kernel_rfl); (first | clear R hR | clear hR))
    | ((with_reducible first | refine int_step ?_); conv => whnf)
    | (with_reducible first | refine vc_block ?_ | refine vc_skip ?_ | refine vc_ret ?_ | refine vc_exit ?_ | refine vc_region (fun R hR => ?_) | refine k_seq_ret ?_ | refine k_seq_exit ?_ | refine k_blk ?_ | refine k_blk_ret ?_ | refine k_blk_here ?_ | refine k_loop_ret ?_ | refine k_loop_exit ?_)
    | ((with_reducible refine vc_seqN [7] ?hx ?_); (case hx => exact rfl))
    | ((with_reducible refine vc_draw ?hx (fun R hR => ?_)); (case hx => exact rfl))
    | (revert hF; (refine Lp.cut1 Lf19_c7 f19_c7 7 rfl rfl ?_ ?_); (intro hF); rotate_left; (rintro p6 hF; dsimp only [Lf19_c7] at hF; unfold f19_c7 at hF); rotate_right)
    | exact Lp.head Ef19_c7 hF () ⟨_, rfl, rfl, rfl, rfl⟩ rfl
    | (revert hF; (refine Lp.loop Ef19_5 () rfl ⟨_, rfl, rfl, rfl, rfl⟩ rfl (fun _ => rfl) ?_); rintro n p6 hF; dsimp only [Lf19_5, f19_5] at hF; unfold f19_5b at hF)
    | exact Lp.back Ef19_5 hF () ⟨_, rfl, rfl, rfl, rfl⟩ rfl
    | (revert hF; (with_reducible refine G24.lend ?hx ?_); (case hx => exact rfl); intro v hF; conv => whnf)
    | (revert hF; (with_reducible refine G50.lend ?hx ?_); (case hx => exact rfl); intro v hF; conv => whnf)
    | (revert hF; (refine subS_step ?_); intro x hF; conv => whnf)
    | ((refine row_all ?hn ?_); (case hn => first | exact rfl | (simp; done) | (simp; omega)); conv => whnf)
    | ((with_reducible refine le_step ?hn ?_); (case hn => first | exact rfl | assumption | omega); conv => whnf)
    | ((refine ⟨?hx, ?_⟩); (case hx => exact ⟨rfl, Nat.le_of_ble_eq_true rfl, rfl⟩); conv => whnf)
    | ((with_reducible refine ex_step ?_); conv => whnf)
    | ((with_reducible have hG := chk_fact hF); clear hF; (refine ⟨?hx, ?_⟩); (case hx => (first | exact of_decide_eq_true hG.1 | exact hG.1)); have hF := hG.2; clear hG; conv => whnf)
    | ((with_reducible refine both_T ?hx ?_); (case hx => first | exact rfl | assumption | exact notT (by assumption)); conv => whnf)
    | ((with_reducible refine both_F ?hx ?_); (case hx => first | exact rfl | assumption | exact notF (by assumption)); conv => whnf)
    | (revert hF; (with_reducible refine ite_step ?_ ?_) <;> (intro hc hF; conv => whnf))
    | ((with_reducible refine vc_condF ?hx ?_); (case hx => exact rfl))
    | (show retD _ _ _ _ _ _; conv => whnf)
    | ((refine ⟨?hx, trivial⟩); (case hx => (cases hF; exact rfl)))
    | ((refine ⟨?hx, ?_⟩); (case hx => decide); conv => whnf)
    | with_reducible refine k_seq ?_
    | (have hF : (none : Option _) = some _ := hF; cases hF))
end
end Go.Vc
namespace Go.Vc
open Go.Proofs
set_option linter.unusedVariables false
set_option linter.unnecessarySimpa false
set_option linter.unusedSimpArgs false
section
variable {c : Ctx} {p nid : Nat} {a b : Code} {st : St} {K : Ex → St → Prop}
def f21_c16 (out5 : List Int) : Option ((List Int) × Int) :=
 some (out5, (0 : Int))
def Lf21_c16 : Lp ((List Int)) (Nat) ((List Int) × Int) := ⟨⟨[5], [90005], [(.slot 5, 90005, 3, 1)], []⟩, fun out5 => [.rs 90005 (List.length out5)], fun out5 => [.row 3 1 (List.map iN out5)], fun out5 => f21_c16 out5, fun _ m0 => [.rs 90005 m0], fun out5 _ => [.row 3 1 (List.map iN out5)], fun out5 => List.length out5, fun _ => rfl, fun _ => rfl⟩
theorem Ef21_c16 {out5} : (Lf21_c16).E out5 = f21_c16 out5 := rfl
def f21_c7 (a0 : ByteArray) (k6 : Int) (r6 : (List Int) → Int → Option ((List Int) × Int)) (out5' : List Int) : Option ((List Int) × Int) :=
 r6 (out5') (W (k6 + (1 : Int)))
def Lf21_c7 (a0 : ByteArray) (k6 : Int) (r6 : (List Int) → Int → Option ((List Int) × Int)) : Lp ((List Int)) (Nat) ((List Int) × Int) := ⟨⟨[0, 5, 6], [90005], [(.slot 5, 90005, 3, 1)], []⟩, fun out5' => [.dat (strN a0), .rs 90005 (List.length (out5')), .dat (iN k6)], fun out5' => [.row 3 1 (List.map iN (out5'))], fun out5' => f21_c7 a0 k6 r6 out5', fun _ m0 => [.dat (strN a0), .rs 90005 m0, .dat (iN k6)], fun out5' _ => [.row 3 1 (List.map iN (out5'))], fun out5' => List.length (out5'), fun _ => rfl, fun _ => rfl⟩
theorem Ef21_c7 {a0 k6 r6 out5'} : (Lf21_c7 a0 k6 r6).E out5' = f21_c7 a0 k6 r6 out5' := rfl
def f21_c14 (a0 : ByteArray) (out5 : List Int) (k6 : Int) (k1 : (List Int) → Option ((List Int) × Int)) (to7 : Int) : Option ((List Int) × Int) :=
 bif decide (to7 = (ByteArray.size a0 : Int)) then ((app 8 out5 [k6]).bind fun x2 =>
 k1 x2)
 else (k1 out5)
def Lf21_c14 (a0 : ByteArray) (out5 : List Int) (k6 : Int) (k1 : (List Int) → Option ((List Int) × Int)) : Lp (Int) (Nat) ((List Int) × Int) := ⟨⟨[0, 5, 6, 7], [90005], [], []⟩, fun to7 => [.dat (strN a0), .rs 90005 (List.length out5), .dat (iN k6), .dat (iN to7)], fun _ => [.row 3 1 (List.map iN out5)], fun to7 => f21_c14 a0 out5 k6 k1 to7, fun to7 m0 => [.dat (strN a0), .rs 90005 m0, .dat (iN k6), .dat (iN to7)], fun _ _ => [.row 3 1 (List.map iN out5)], fun _ => List.length out5, fun _ => rfl, fun _ => rfl⟩
theorem Ef21_c14 {a0 out5 k6 k1 to7} : (Lf21_c14 a0 out5 k6 k1).E to7 = f21_c14 a0 out5 k6 k1 to7 := rfl
def f21_10b (r10 : Int → Int → Option ((List Int) × Int)) (a0 : ByteArray) (out5 : List Int) (k6 : Int) (k2 : Int → Option ((List Int) × Int)) (to7 : Int) (i8' : Int) : Option ((List Int) × Int) :=
 bif decide ((W ((i8') + k6)) ≤ (ByteArray.size a0 : Int)) then (bif decide ((i8') ≤ to7) then ((subS a0 (i8') (W ((i8') + k6))).bind fun x3 =>
 (subS a0 0 k6).bind fun x4 =>
 bif decide (x3 = x4) then (r10 (W ((i8') + k6)) (W ((i8') + (1 : Int))))
 else (r10 to7 (W ((i8') + (1 : Int)))))
 else (r10 to7 (W ((i8') + (1 : Int)))))
 else (k2 to7)
def f21_10 (a0 : ByteArray) (out5 : List Int) (k6 : Int) (k2 : Int → Option ((List Int) × Int)) : Nat → Int → Int → Option ((List Int) × Int)
  | 0, _, _ => none
  | n + 1, to7, i8' => f21_10b (f21_10 a0 out5 k6 k2 n) a0 out5 k6 k2 to7 i8'
def Lf21_10 (a0 : ByteArray) (out5 : List Int) (k6 : Int) (k2 : Int → Option ((List Int) × Int)) : Lp (Nat × Int × Int) (Nat) ((List Int) × Int) := ⟨⟨[0, 5, 6, 7, 8], [90005], [], []⟩, fun (_, to7, i8') => [.dat (strN a0), .rs 90005 (List.length out5), .dat (iN k6), .dat (iN to7), .dat (iN (i8'))], fun (_, _, _) => [.row 3 1 (List.map iN out5)], fun (n, to7, i8') => f21_10 a0 out5 k6 k2 n to7 i8', fun (_, to7, i8') m0 => [.dat (strN a0), .rs 90005 m0, .dat (iN k6), .dat (iN to7), .dat (iN (i8'))], fun (_, _, _) _ => [.row 3 1 (List.map iN out5)], fun (_, _, _) => List.length out5, fun _ => rfl, fun _ => rfl⟩
theorem Ef21_10 {a0 out5 k6 k2 n to7 i8'} : (Lf21_10 a0 out5 k6 k2).E (n, to7, i8') = f21_10 a0 out5 k6 k2 n to7 i8' := rfl
def f21_6b (r6 : (List Int) → Int → Option ((List Int) × Int)) (a0 : ByteArray) (N : Nat) (k0 : (List Int) → Option ((List Int) × Int)) (out5 : List Int) (k6 : Int) : Option ((List Int) × Int) :=
 bif decide (k6 ≤ (ByteArray.size a0 : Int)) then (joinK (f21_c7 a0 k6 r6) fun k1 =>
 joinK (f21_c14 a0 out5 k6 k1) fun k2 =>
 f21_10 a0 out5 k6 k2 N (0 : Int) (0 : Int))
 else (k0 out5)
def f21_6 (a0 : ByteArray) (N : Nat) (k0 : (List Int) → Option ((List Int) × Int)) : Nat → (List Int) → Int → Option ((List Int) × Int)
  | 0, _, _ => none
  | n + 1, out5, k6 => f21_6b (f21_6 a0 N k0 n) a0 N k0 out5 k6
def Lf21_6 (a0 : ByteArray) (N : Nat) (k0 : (List Int) → Option ((List Int) × Int)) : Lp (Nat × (List Int) × Int) (Nat) ((List Int) × Int) := ⟨⟨[0, 5, 6], [90005], [(.slot 5, 90005, 3, 1)], []⟩, fun (_, out5, k6) => [.dat (strN a0), .rs 90005 (List.length out5), .dat (iN k6)], fun (_, out5, _) => [.row 3 1 (List.map iN out5)], fun (n, out5, k6) => f21_6 a0 N k0 n out5 k6, fun (_, _, k6) m0 => [.dat (strN a0), .rs 90005 m0, .dat (iN k6)], fun (_, out5, _) _ => [.row 3 1 (List.map iN out5)], fun (_, out5, _) => List.length out5, fun _ => rfl, fun _ => rfl⟩
theorem Ef21_6 {a0 N k0 n out5 k6} : (Lf21_6 a0 N k0).E (n, out5, k6) = f21_6 a0 N k0 n out5 k6 := rfl
def f21 (N : Nat) (a0 : ByteArray) : Option ((List Int) × Int) :=
 (f24 N a0).bind fun x1 =>
 bif decide (¬ x1 = (0 : Int)) then (some ([], x1))
 else (joinK f21_c16 fun k0 =>
 f21_6 a0 N k0 N [] (1 : Int))
def G21 (ds : List D) (d : D) : Prop := ∃ (N : Nat) (a0 : ByteArray) (r : (List Int) × Int), ds = [strN a0] ∧ f21 N a0 = some r ∧ d = .tup [sl_iN r.1, iN r.2]
theorem G21.step {N : Nat} {a0 : ByteArray} {ρ : Type} {A : ((List Int) × Int) → Option ρ} {q : ρ} {ds : List D} {K : D → Prop} (hd : ds = [strN a0]) (h : ∀ r, A r = some q → K (.tup [sl_iN r.1, iN r.2])) (hF : (f21 N a0).bind A = some q) : ∃ d, G21 ds d ∧ K d := by
  obtain ⟨r, hr, hA⟩ := bind_some hF
  exact ⟨_, ⟨N, a0, r, hd, hr, rfl⟩, h r hA⟩
set_option maxRecDepth 20000 in
set_option maxHeartbeats 4000000 in
theorem P21 : PureOK Try.prog 21 G21 := by
  refine pure_of_vc (c := mkCtx tyTree [(24, true, lendPg [[0]] G24)]) rfl tyOK (ctx_lend (callable Try.func24 rfl rfl) P24 (ctx_nil)) [[1], [0]] 1 Try.func21 rfl rfl (by decide) (by kernel_rfl) ?_
  rintro ds d ⟨N, a0, r, rfl, hF, rfl⟩ hok
  clear hok
  refine ⟨rfl, ?_⟩
  show vc _ _ _ _ ⟨[(0, .dat (strN a0))], []⟩ _
  unfold f21 at hF
  repeat' (first
    | ((with_reducible first | refine q0 _ _ ?_ | refine q1 _ _ _ _ ?_ | refine q2 _ _ _ ?_); clear Q q0 q1 q2)
    | ((with_reducible first | refine seq_op ?hx (fun Q q0 q1 q2 => ?_) | refine draw_op ?hx (fun Q q0 q1 q2 => ?_)); (case hx => exact rfl); conv => whnf)
    | ((with_reducible first | refine seq_off ?hx ?_ | refine seq_off0 ?hx ?_ | refine draw_off ?hx ?_ | refine draw_off0 ?hx ?_ | refine k_blk_out ?hx ?_ | refine vc_condT ?hx ?_); (case hx => exact rfl))
    | ((with_reducible refine draw_id ?_); (first | ((first | refine draw_opK rfl ?hy (fun Q q0 q1 q2 => ?_) | refine draw_opK0 rfl ?hy (fun Q q0 q1 q2 => ?_)); (case hy => first | assumption | exact notT (by assumption) | exact rfl); conv => whnf) | ((first | refine draw_offK rfl ?hy ?_ | refine draw_offK0 rfl ?hy ?_); (case hy => first | assumption | exact notF (by assumption) | exact rfl)) | (revert hF; (with_reducible first | refine draw_opF ?hx ?_ ?_ | refine draw_opF0 ?hx ?_ ?_); (case hx => exact rfl); (intro hc hF Q q0 q1 q2; conv => whnf); rotate_left; (intro hc hF); rotate_right) | (revert hF; (with_reducible first | refine draw_opN ?hx ?_ ?_ | refine draw_opN0 ?hx ?_ ?_); (case hx => exact rfl); (intro hc hF); rotate_left; (intro hc hF Q q0 q1 q2; conv => whnf); rotate_right)))
    | ((with_reducible refine cond_id ?_); (first | ((refine condKT rfl ?hy ?_); (case hy => first | assumption | exact notT (by assumption) | exact rfl)) | ((refine condKF rfl ?hy ?_); (case hy => first | assumption | exact notF (by assumption) | exact rfl)) | (revert hF; (with_reducible refine condF ?hx ?_ ?_); (case hx => exact rfl); all_goals (intro hc hF))))
    | ((with_reducible refine seq_nil ?_); (first | ((with_reducible refine hR _ ?_); clear R hR) | ((with_reducible refine hL _ ?_); clear L hL)))
    | ((with_reducible refine draw_nil ?_); (with_reducible refine hR _ _ ?hx ?_); (case hx => kernel_rfl); (first | clear R hR | clear hR))
    | ((with_reducible first | refine int_step ?_ | refine len_step ?_); conv => whnf)
    | (with_reducible first | refine vc_block ?_ | refine vc_skip ?_ | refine vc_ret ?_ | refine vc_exit ?_ | refine vc_region (fun R hR => ?_) | refine k_seq_ret ?_ | refine k_seq_exit ?_ | refine k_blk ?_ | refine k_blk_ret ?_ | refine k_blk_here ?_ | refine k_loop_ret ?_ | refine k_loop_exit ?_)
    | ((with_reducible refine vc_seqN [16, 7, 14] ?hx ?_); (case hx => exact rfl))
    | ((with_reducible refine vc_draw ?hx (fun R hR => ?_)); (case hx => exact rfl))
    | (revert hF; (refine Lp.cut0 Lf21_c16 f21_c16 16 rfl rfl ?_ ?_); (intro hF); rotate_left; (rintro out5 hF; dsimp only [Lf21_c16] at hF; unfold f21_c16 at hF); rotate_right)
    | exact Lp.head Ef21_c16 hF _ ⟨_, rfl, rfl, rfl, rfl⟩ (by first | exact rfl | ((try dsimp only [Lf21_c16]); first | assumption | omega | (simp only [List.length_set]; done)))
    | (revert hF; (refine Lp.cut3 Lf21_c7 f21_c7 7 rfl rfl ?_ ?_); (intro hF); rotate_left; (rintro out5' hF; dsimp only [Lf21_c7] at hF; unfold f21_c7 at hF); rotate_right)
    | exact Lp.head Ef21_c7 hF _ ⟨_, rfl, rfl, rfl, rfl⟩ (by first | exact rfl | ((try dsimp only [Lf21_c7]); first | assumption | omega | (simp only [List.length_set]; done)))
    | (revert hF; (refine Lp.cut4 Lf21_c14 f21_c14 14 rfl rfl ?_ ?_); (intro hF); rotate_left; (rintro to7 hF; dsimp only [Lf21_c14] at hF; unfold f21_c14 at hF); rotate_right)
    | exact Lp.head Ef21_c14 hF _ ⟨_, rfl, rfl, rfl, rfl⟩ (by first | exact rfl | ((try dsimp only [Lf21_c14]); first | assumption | omega | (simp only [List.length_set]; done)))
    | (revert hF; (refine Lp.loop Ef21_10 _ rfl ⟨_, rfl, rfl, rfl, rfl⟩ (by first | exact rfl | ((try dsimp only [Lf21_10]); first | assumption | omega | (simp only [List.length_set]; done))) (fun _ => rfl) ?_); rintro n ⟨to7, i8'⟩ hF; dsimp only [Lf21_10, f21_10] at hF; unfold f21_10b at hF)
    | exact Lp.back Ef21_10 hF _ ⟨_, rfl, rfl, rfl, rfl⟩ (by first | exact rfl | ((try dsimp only [Lf21_10]); first | assumption | omega | (simp only [List.length_set]; done)))
    | (revert hF; (refine Lp.loop Ef21_6 _ rfl ⟨_, rfl, rfl, rfl, rfl⟩ (by first | exact rfl | ((try dsimp only [Lf21_6]); first | assumption | omega | (simp only [List.length_set]; done))) (fun _ => rfl) ?_); rintro n ⟨out5, k6⟩ hF; dsimp only [Lf21_6, f21_6] at hF; unfold f21_6b at hF)
    | exact Lp.back Ef21_6 hF _ ⟨_, rfl, rfl, rfl, rfl⟩ (by first | exact rfl | ((try dsimp only [Lf21_6]); first | assumption | omega | (simp only [List.length_set]; done)))
    | (revert hF; (with_reducible refine G24.lend ?hx ?_); (case hx => exact rfl); intro v hF; conv => whnf)
    | (revert hF; (refine subS_step ?_); intro x hF; conv => whnf)
    | ((with_reducible have hG := app_fact hF); clear hF; (first | ((refine app_row hG ?hn ?hs (fun q hF => ?_)); (case hn => first | exact rfl | assumption | omega); (case hs => exact rfl)) | ((refine app_nil (d := iN) hG ?hs (fun q hF => ?_)); (case hs => exact rfl)) | ((refine app_gen (d := iN) hG ?ho ?hn ?hs (fun q hF => ?_)); (case ho => exact rfl); (case hn => exact rfl); (case hs => exact rfl))); clear hG; conv => whnf)
    | ((refine row_all ?hn ?_); (case hn => first | exact rfl | (simp; done) | (simp; omega)); conv => whnf)
    | ((with_reducible refine le_step ?hn ?_); (case hn => first | exact rfl | assumption | omega); conv => whnf)
    | ((refine ⟨?hx, ?_⟩); (case hx => exact ⟨rfl, Nat.le_of_ble_eq_true rfl, rfl⟩); conv => whnf)
    | ((with_reducible refine ex_step ?_); conv => whnf)
    | ((with_reducible refine both_T ?hx ?_); (case hx => first | exact rfl | assumption | exact notT (by assumption)); conv => whnf)
    | ((with_reducible refine both_F ?hx ?_); (case hx => first | exact rfl | assumption | exact notF (by assumption)); conv => whnf)
    | (revert hF; (with_reducible refine ite_step ?_ ?_) <;> (intro hc hF; conv => whnf))
    | ((with_reducible refine vc_condF ?hx ?_); (case hx => exact rfl))
    | (show retD _ _ _ _ _ _; conv => whnf)
    | ((refine ⟨?hx, trivial⟩); (case hx => (cases hF; exact rfl)))
    | ((refine ⟨?hx, ?_⟩); (case hx => decide); conv => whnf)
    | with_reducible refine k_seq ?_
    | (have hF : (none : Option _) = some _ := hF; cases hF))
end
end Go.Vc
namespace Go.Vc
open Go.Proofs
set_option linter.unusedVariables false
set_option linter.unnecessarySimpa false
set_option linter.unusedSimpArgs false
section
variable {c : Ctx} {p nid : Nat} {a b : Code} {st : St} {K : Ex → St → Prop}
def f3 (N : Nat) (a0 : ByteArray) : Option (Bool) :=
 bif decide ((100 : Int) < (ByteArray.size a0 : Int)) then ((f15 N ).bind fun x1 =>
 some (x1))
 else ((f16 N a0).bind fun x2 =>
 (f17 N a0).bind fun x3 =>
 (f18 N a0).bind fun x4 =>
 (f19 N a0).bind fun x5 =>
 (f20 N a0).bind fun x6 =>
 (f21 N a0).bind fun x7 =>
 (f22 N x2.1 x3.1).bind fun x8 =>
 bif x8 then (bif decide (x2.2 = x3.2) then (bif decide (x4.1 = x5.1) then (bif decide (x4.2.1 = x5.2.1) then (bif decide (x4.2.2 = x5.2.2) then ((f22 N x6.1 x7.1).bind fun x9 =>
 bif x9 then (bif decide (x6.2 = x7.2) then ((f23 N a0).bind fun x10 =>
 (f24 N a0).bind fun x11 =>
 bif decide (x10 = x11) then ((f15 N ).bind fun x12 =>
 some (x12))
 else (some (false)))
 else (some (false)))
 else (some (false)))
 else (some (false)))
 else (some (false)))
 else (some (false)))
 else (some (false)))
 else (some (false)))
def G3 (ds : List D) (d : D) : Prop := ∃ (N : Nat) (a0 : ByteArray) (r : Bool), ds = [strN a0] ∧ f3 N a0 = some r ∧ d = bN r
set_option maxRecDepth 20000 in
set_option maxHeartbeats 4000000 in
theorem P3 : PureOK Try.prog 3 G3 := by
  refine pure_of_vc (c := mkCtx tyTree [(24, true, lendPg [[0]] G24), (23, true, lendPg [[0]] G23), (22, true, lendPg [[1], [1]] G22), (21, true, purePg [[0]] G21), (20, true, purePg [[0]] G20), (19, true, lendPg [[0]] G19), (18, true, lendPg [[0]] G18), (17, true, purePg [[0]] G17), (16, true, purePg [[0]] G16), (15, true, lendPg [] G15)]) rfl tyOK (ctx_lend (callable Try.func24 rfl rfl) P24 (ctx_lend (callable Try.func23 rfl rfl) P23 (ctx_lend (callable Try.func22 rfl rfl) P22 (ctx_cons (callable Try.func21 rfl rfl) P21 (ctx_cons (callable Try.func20 rfl rfl) P20 (ctx_lend (callable Try.func19 rfl rfl) P19 (ctx_lend (callable Try.func18 rfl rfl) P18 (ctx_cons (callable Try.func17 rfl rfl) P17 (ctx_cons (callable Try.func16 rfl rfl) P16 (ctx_lend (callable Try.func15 rfl rfl) P15 (ctx_nil))))))))))) [[0]] 1 Try.func3 rfl rfl (by decide) (by kernel_rfl) ?_
  rintro ds d ⟨N, a0, r, rfl, hF, rfl⟩ hok
  clear hok
  refine ⟨rfl, ?_⟩
  show vc _ _ _ _ ⟨[(0, .dat (strN a0))], []⟩ _
  unfold f3 at hF
  repeat' (first
    | ((with_reducible first | refine q0 _ _ ?_ | refine q1 _ _ _ _ ?_ | refine q2 _ _ _ ?_); clear Q q0 q1 q2)
    | ((with_reducible first | refine seq_op ?hx (fun Q q0 q1 q2 => ?_)); (case hx => exact rfl); conv => whnf)
    | ((with_reducible first | refine seq_off ?hx ?_ | refine seq_off0 ?hx ?_ | refine k_blk_out ?hx ?_ | refine vc_condT ?hx ?_); (case hx => exact rfl))
    | ((with_reducible refine seq_id ?_); (first | ((first | refine seq_opK rfl ?hy (fun Q q0 q1 q2 => ?_) | refine seq_opK0 rfl ?hy (fun Q q0 q1 q2 => ?_)); (case hy => first | assumption | exact notT (by assumption) | exact rfl); conv => whnf) | ((first | refine seq_offK rfl ?hy ?_ | refine seq_offK0 rfl ?hy ?_); (case hy => first | assumption | exact notF (by assumption) | exact rfl)) | (revert hF; (with_reducible first | refine seq_opF ?hx ?_ ?_ | refine seq_opF0 ?hx ?_ ?_); (case hx => exact rfl); (intro hc hF Q q0 q1 q2; conv => whnf); rotate_left; (intro hc hF); rotate_right) | (revert hF; (with_reducible first | refine seq_opN ?hx ?_ ?_ | refine seq_opN0 ?hx ?_ ?_); (case hx => exact rfl); (intro hc hF); rotate_left; (intro hc hF Q q0 q1 q2; conv => whnf); rotate_right)))
    | ((with_reducible refine cond_id ?_); (first | ((refine condKT rfl ?hy ?_); (case hy => first | assumption | exact notT (by assumption) | exact rfl)) | ((refine condKF rfl ?hy ?_); (case hy => first | assumption | exact notF (by assumption) | exact rfl)) | (revert hF; (with_reducible refine condF ?hx ?_ ?_); (case hx => exact rfl); all_goals (intro hc hF))))
    | ((with_reducible refine seq_nil ?_); (first | ((with_reducible refine hR _ ?_); clear R hR) | ((with_reducible refine hL _ ?_); clear L hL)))
    | ((with_reducible first | refine int_step ?_); conv => whnf)
    | (with_reducible first | refine vc_block ?_ | refine vc_skip ?_ | refine vc_ret ?_ | refine vc_exit ?_ | refine vc_region (fun R hR => ?_) | refine k_seq_ret ?_ | refine k_seq_exit ?_ | refine k_blk ?_ | refine k_blk_ret ?_ | refine k_blk_here ?_)
    | ((with_reducible refine vc_seqN [] ?hx ?_); (case hx => exact rfl))
    | (revert hF; (with_reducible refine G15.lend ?hx ?_); (case hx => exact rfl); intro v hF; conv => whnf)
    | (revert hF; (with_reducible refine G16.step ?hx ?_); (case hx => exact rfl); intro v hF; conv => whnf)
    | (revert hF; (with_reducible refine G17.step ?hx ?_); (case hx => exact rfl); intro v hF; conv => whnf)
    | (revert hF; (with_reducible refine G18.lend ?hx ?_); (case hx => exact rfl); intro v hF; conv => whnf)
    | (revert hF; (with_reducible refine G19.lend ?hx ?_); (case hx => exact rfl); intro v hF; conv => whnf)
    | (revert hF; (with_reducible refine G20.step ?hx ?_); (case hx => exact rfl); intro v hF; conv => whnf)
    | (revert hF; (with_reducible refine G21.step ?hx ?_); (case hx => exact rfl); intro v hF; conv => whnf)
    | (revert hF; (with_reducible refine G22.lend ?hx ?_); (case hx => exact rfl); intro v hF; conv => whnf)
    | (revert hF; (with_reducible refine G23.lend ?hx ?_); (case hx => exact rfl); intro v hF; conv => whnf)
    | (revert hF; (with_reducible refine G24.lend ?hx ?_); (case hx => exact rfl); intro v hF; conv => whnf)
    | ((refine row_all ?hn ?_); (case hn => first | exact rfl | (simp; done) | (simp; omega)); conv => whnf)
    | ((with_reducible refine le_step ?hn ?_); (case hn => first | exact rfl | assumption | omega); conv => whnf)
    | ((refine ⟨?hx, ?_⟩); (case hx => exact ⟨rfl, Nat.le_of_ble_eq_true rfl, rfl⟩); conv => whnf)
    | ((with_reducible refine ex_step ?_); conv => whnf)
    | ((with_reducible refine both_T ?hx ?_); (case hx => first | exact rfl | assumption | exact notT (by assumption)); conv => whnf)
    | ((with_reducible refine both_F ?hx ?_); (case hx => first | exact rfl | assumption | exact notF (by assumption)); conv => whnf)
    | (revert hF; (with_reducible refine ite_step ?_ ?_) <;> (intro hc hF; conv => whnf))
    | ((with_reducible refine vc_condF ?hx ?_); (case hx => exact rfl))
    | (show retD _ _ _ _ _ _; conv => whnf)
    | ((refine ⟨?hx, trivial⟩); (case hx => (cases hF; exact rfl)))
    | ((refine ⟨?hx, ?_⟩); (case hx => decide); conv => whnf)
    | with_reducible refine k_seq ?_
    | (have hF : (none : Option _) = some _ := hF; cases hF))
end
end Go.Vc
namespace Go.Vc
set_option linter.unusedVariables false
set_option linter.unnecessarySimpa false
set_option linter.unusedSimpArgs false
section
variable {α β σ : Type}
open Classical in
theorem loop_ex {F : Nat → Int → Option β} {k0 e : Option β} {p : Nat → Prop} (len : Nat)
    (hs : ∀ n i, i < len → F (n + 1) (i : Int) = if p i then e else F n ((i + 1 : Nat) : Int)) (he : ∀ n, F (n + 1) (len : Int) = k0) :
    ∀ n i, i ≤ len → len - i < n → F n (i : Int) = if (∃ j, i ≤ j ∧ j < len ∧ p j) then e else k0 := by
  intro n
  induction n with
  | zero => intro i _ h; omega
  | succ n ih =>
    intro i hi hn
    by_cases h : i = len
    · subst h
      rw [he, if_neg]
      rintro ⟨j, h1, h2, _⟩; omega
    · rw [hs n i (by omega)]
      by_cases hp : p i
      · rw [if_pos hp, if_pos ⟨i, Nat.le_refl _, by omega, hp⟩]
      · rw [if_neg hp, ih (i + 1) (by omega) (by omega)]
        by_cases hx : ∃ j, i + 1 ≤ j ∧ j < len ∧ p j
        · obtain ⟨j, h1, h2, h3⟩ := hx
          rw [if_pos ⟨j, h1, h2, h3⟩, if_pos ⟨j, by omega, h2, h3⟩]
        · rw [if_neg hx, if_neg]
          rintro ⟨j, h1, h2, h3⟩
          by_cases hj : j = i
          · subst hj; exact hp h3
          · exact hx ⟨j, by omega, h2, h3⟩
open Classical in
theorem loop_ex0 {F : Nat → Int → Option β} {k0 e : Option β} {p : Nat → Prop} (len : Nat)
    (hs : ∀ n i, i < len → F (n + 1) (i : Int) = if p i then e else F n ((i + 1 : Nat) : Int)) (he : ∀ n, F (n + 1) (len : Int) = k0) {n : Nat} (hn : len < n) :
    F n 0 = if (∃ j, j < len ∧ p j) then e else k0 := by
  have := loop_ex len hs he n 0 (by omega) (by omega)
  rw [show ((0 : Nat) : Int) = 0 from rfl] at this
  rw [this]
  by_cases h : ∃ j, j < len ∧ p j
  · obtain ⟨j, h1, h2⟩ := h
    rw [if_pos ⟨j, by omega, h1, h2⟩, if_pos ⟨j, h1, h2⟩]
  · rw [if_neg h, if_neg]
    rintro ⟨j, _, h1, h2⟩; exact h ⟨j, h1, h2⟩
theorem loop_inv {F : Nat → σ → Int → Option β} {k : σ → Option β} (g : σ → Nat → σ) (Inv : Nat → σ → Prop) (len : Nat)
    (hs : ∀ n s i, i < len → Inv i s → F (n + 1) s (i : Int) = F n (g s i) ((i + 1 : Nat) : Int)) (hi : ∀ s i, i < len → Inv i s → Inv (i + 1) (g s i)) (he : ∀ n s, F (n + 1) s (len : Int) = k s) :
    ∀ n i s, i ≤ len → len - i < n → Inv i s → F n s (i : Int) = k ((List.range' i (len - i)).foldl g s) ∧ Inv len ((List.range' i (len - i)).foldl g s) := by
  intro n
  induction n with
  | zero => intro i s _ h; omega
  | succ n ih =>
    intro i s hl hn h0
    by_cases h : i = len
    · subst h
      rw [he, Nat.sub_self]; exact ⟨rfl, h0⟩
    · rw [hs n s i (by omega) h0]
      obtain ⟨h1, h2⟩ := ih (i + 1) (g s i) (by omega) (by omega) (hi s i (by omega) h0)
      rw [show len - i = (len - (i + 1)) + 1 by omega, List.range'_succ]
      exact ⟨h1, h2⟩
end
end Go.Vc
namespace Go.Vc
set_option linter.unusedVariables false
set_option linter.unnecessarySimpa false
set_option linter.unusedSimpArgs false
set_option linter.unusedSimpArgs false
section
variable {l m : List UInt8}
theorem S_ex (s : ByteArray) : ∃ l, s = strC l := ⟨s.data.toList, by cases s; simp [strC]⟩
@[simp] theorem strC_size : (strC l).size = l.length := by simp [strC, ByteArray.size]
@[simp] theorem strC_toList : (strC l).data.toList = l := by simp [strC]
theorem strC_inj : strC l = strC m ↔ l = m := by
  constructor
  · intro h
    have := congrArg (fun s : ByteArray => s.data.toList) h
    simpa using this
  · rintro rfl; rfl
theorem emptyS_eq : emptyS = strC [] := rfl
theorem extract_L {a b : Nat} : (strC l).extract a b = strC ((l.take b).drop a) := by
  have h : ∀ s : ByteArray, s = strC s.data.toList := fun s => by cases s; simp [strC]
  rw [h ((strC l).extract a b)]
  simp [ByteArray.data_extract, List.drop_take, strC]
theorem subS_L {a b : Nat} (h : a ≤ b) (h' : b ≤ l.length) : subS (strC l) (a : Int) (b : Int) = some (strC ((l.take b).drop a)) := by
  unfold subS
  rw [if_pos ⟨by omega, by omega, by simp; omega⟩]
  simp only [Int.toNat_natCast, subStr, extract_L]
theorem byteAt_L {i : Nat} (h : i < l.length) : byteAt (strC l) i = (l[i].toNat : Int) := by
  unfold byteAt
  simp [h]
theorem idxS_L {i : Nat} (h : i < l.length) : idxS (strC l) (i : Int) = some (l[i].toNat : Int) := by
  unfold idxS
  rw [if_pos ⟨by omega, by simp; omega⟩]
  simp only [Int.toNat_natCast, byteAt_L h]
theorem toNat_inj {a b : UInt8} : (a.toNat : Int) = (b.toNat : Int) ↔ a = b := by
  constructor
  · intro h; exact UInt8.toNat_inj.1 (by omega)
  · rintro rfl; rfl
theorem rune_lo {p : Nat} (h : p < l.length) (hb : l[p].toNat < 128) : runeAt (strC l) p = ((l[p].toNat : Int), p + 1) := by
  have hs : p < (strC l).size := by simpa using h
  have he : (strC l)[p] = l[p] := by
    have h1 : byteAt (strC l) p = _ := (str_get (strC l) p hs).2.symm
    have h2 := byteAt_L h
    exact toNat_inj.1 (h1.symm.trans h2)
  unfold runeAt
  rw [decode_ascii (strC l) p hs (by rw [he]; omega)]
  simp only [he]
  rfl
theorem rune_hi {p : Nat} (h : p < l.length) (hb : 128 ≤ l[p].toNat) : 128 ≤ (runeAt (strC l) p).1 := by
  have hs : p < (strC l).size := by simpa using h
  have he : (strC l)[p] = l[p] := by
    have h1 : byteAt (strC l) p = _ := (str_get (strC l) p hs).2.symm
    have h2 := byteAt_L h
    exact toNat_inj.1 (h1.symm.trans h2)
  have := (decode_high (strC l) p hs (by rw [he]; omega)).1
  show (128 : Int) ≤ ((Utf8.decode (strC l) p).1 : Int)
  omega
end
def okb (b : UInt8) : Bool := decide (97 ≤ b.toNat) && decide (b.toNat ≤ 122)
def chk8 (l : List UInt8) : Int := if l = [] then 1 else if 24 < l.length then 19 else if l.all okb then 0 else 9
theorem drop_all {l : List UInt8} {p : Nat} (h : p < l.length) : (l.drop p).all okb = (okb l[p] && (l.drop (p + 1)).all okb) := by
  rw [List.drop_eq_getElem_cons h]; rfl
theorem okb_lo {b : UInt8} (h : (b.toNat : Int) < 97) : okb b = false := by simp [okb]; omega
theorem okb_hi {b : UInt8} (h : (122 : Int) < (b.toNat : Int)) : okb b = false := by simp [okb]; omega
theorem okb_in {b : UInt8} (h : ¬ (b.toNat : Int) < 97) (h' : ¬ (122 : Int) < (b.toNat : Int)) : okb b = true := by simp [okb]; omega
theorem f23_loop {l : List UInt8} {k0 : Option Int} : ∀ (n p : Nat), l.length - p < n → p ≤ l.length → f23_6 (strC l) k0 n p = if (l.drop p).all okb then k0 else some 9 := by
  intro n
  induction n with
  | zero => intro p h; omega
  | succ n ih =>
    intro p hn hp
    unfold f23_6 f23_6b
    by_cases h : p < l.length
    · simp only [strC_size, h, decide_true, cond_true, Option.bind_some]
      rw [drop_all h]
      by_cases hb : l[p].toNat < 128
      · rw [rune_lo h hb]
        by_cases h1 : (l[p].toNat : Int) < 97
        · simp [h1, okb_lo h1]
        · by_cases h2 : (122 : Int) < l[p].toNat
          · simp [h1, h2, okb_hi h2]
          · simp only [h1, h2, decide_false, cond_false, okb_in h1 h2, Bool.true_and]
            rw [ih (p + 1) (by omega) (by omega)]
      · have := rune_hi h (by omega)
        simp only [show ¬ (runeAt (strC l) p).1 < 97 by omega, show (122 : Int) < (runeAt (strC l) p).1 by omega, decide_false, decide_true, cond_false, cond_true]
        rw [okb_hi (by omega)]; simp
    · have : p = l.length := by omega
      subst this
      simp
theorem f24_loop {l : List UInt8} {k0 : Option Int} (hl : l.length ≤ 1000) : ∀ (n p : Nat), l.length - p < n → p ≤ l.length → f24_6 (strC l) k0 n (p : Int) = if (l.drop p).all okb then k0 else some 9 := by
  intro n
  induction n with
  | zero => intro p h; omega
  | succ n ih =>
    intro p hn hp
    unfold f24_6 f24_6b
    by_cases h : p < l.length
    · simp only [strC_size, show (p : Int) < (l.length : Int) by omega, decide_true, cond_true, idxS_L h, Option.bind_some]
      rw [drop_all h]
      by_cases h1 : (l[p].toNat : Int) < 97
      · simp [h1, okb_lo h1]
      · by_cases h2 : (122 : Int) < l[p].toNat
        · simp [h1, h2, okb_hi h2]
        · simp only [h1, h2, decide_false, cond_false, okb_in h1 h2, Bool.true_and]
          rw [W_nat (by omega), ih (p + 1) (by omega) (by omega)]
    · have : p = l.length := by omega
      subst this
      simp
theorem f23_eq {l : List UInt8} {N : Nat} (hN : 30 ≤ N) : f23 N (strC l) = some (chk8 l) := by
  unfold f23 chk8
  by_cases h : l = []
  · subst h; simp [emptyS_eq]
  · simp only [emptyS_eq, strC_inj, h, decide_false, cond_false, strC_size, if_false]
    by_cases h2 : 24 < l.length
    · simp [h2, show (24 : Int) < (l.length : Int) by omega]
    · simp only [show ¬ (24 : Int) < (l.length : Int) by omega, decide_false, cond_false, joinK]
      rw [f23_loop N 0 (by omega) (by omega)]
      simp [h2, f23_c10]
      split <;> rfl
theorem f24_eq {l : List UInt8} {N : Nat} (hN : 30 ≤ N) : f24 N (strC l) = some (chk8 l) := by
  unfold f24 chk8
  by_cases h : l = []
  · subst h; simp [emptyS_eq]
  · simp only [emptyS_eq, strC_inj, h, decide_false, cond_false, strC_size, if_false]
    by_cases h2 : 24 < l.length
    · simp [h2, show (24 : Int) < (l.length : Int) by omega]
    · simp only [show ¬ (24 : Int) < (l.length : Int) by omega, decide_false, cond_false, joinK]
      have := f24_loop (k0 := f24_c10) (l := l) (by omega) N 0 (by omega) (by omega)
      rw [show ((0 : Nat) : Int) = 0 from rfl] at this
      rw [this]
      simp [h2, f24_c10]
      split <;> rfl
theorem chk8_zero {l : List UInt8} : chk8 l = 0 ↔ l ≠ [] ∧ l.length ≤ 24 ∧ l.all okb = true := by
  unfold chk8
  by_cases h : l = [] <;> by_cases h2 : 24 < l.length <;> by_cases h3 : l.all okb = true <;> simp [h, h2, h3] <;> omega
def isP (l : List UInt8) (p : Nat) : Bool := (l.drop p).isPrefixOf l
theorem isP_iff {l : List UInt8} {p : Nat} : isP l p = true ↔ ∀ i, (h : i + p < l.length) → l[i] = l[i + p] := by
  unfold isP
  rw [List.isPrefixOf_iff_prefix, List.prefix_iff_getElem?]
  constructor
  · intro h i hi
    have := h i (by simp; omega)
    rw [List.getElem_drop] at this
    rw [List.getElem?_eq_getElem (by omega)] at this
    have := Option.some.inj this
    rw [this]
    congr 1
    omega
  · intro h i hi
    simp at hi
    rw [List.getElem?_eq_getElem (by omega), h i (by omega), List.getElem_drop]
    congr 2
    omega
theorem f50_eq {l : List UInt8} {p N : Nat} (hl : l.length ≤ 1000) (hp : p ≤ 1000) (hN : l.length < N) : f50 N (strC l) (p : Int) = some (isP l p) := by
  unfold f50
  simp only [joinK]
  rw [loop_ex0 (F := f50_2 (strC l) (p : Int) f50_c6) (k0 := f50_c6) (e := some false) (p := fun i => ∃ h : i + p < l.length, l[i] ≠ l[i + p]) (l.length - p)]
  · by_cases h : ∃ j, j < l.length - p ∧ ∃ h : j + p < l.length, l[j] ≠ l[j + p]
    · rw [if_pos h]
      congr 1
      obtain ⟨j, _, h1, h2⟩ := h
      symm
      rw [Bool.eq_false_iff]
      intro hh
      exact h2 (isP_iff.1 hh j h1)
    · rw [if_neg h]
      show some true = _
      congr 1
      symm
      rw [isP_iff]
      intro i hi
      by_cases he : l[i] = l[i + p]
      · exact he
      · exact absurd ⟨i, by omega, hi, he⟩ h
  · intro n i hi
    conv => lhs; unfold f50_2 f50_2b
    rw [show ((i : Int) + (p : Int)) = ((i + p : Nat) : Int) by omega, W_of (by omega) (by omega)]
    simp only [strC_size, show ((i + p : Nat) : Int) < (l.length : Int) by omega, decide_true, cond_true, idxS_L (show i < l.length by omega), idxS_L (show i + p < l.length by omega), Option.bind_some, toNat_inj]
    rw [W_nat (by omega)]
    by_cases he : l[i] = l[i + p]
    · rw [if_neg (by rintro ⟨_, h⟩; exact h he)]; simp [he]
    · rw [if_pos ⟨by omega, he⟩]; simp [he]
  · intro n
    conv => lhs; unfold f50_2 f50_2b
    rw [W_of (by omega) (by omega)]
    simp only [strC_size]
    rw [decide_eq_false (by omega)]; rfl
  · omega
end Go.Vc
namespace Go.Vc
open Go.Proofs
set_option linter.unusedVariables false
set_option linter.unnecessarySimpa false
set_option linter.unusedSimpArgs false
set_option linter.unusedSimpArgs false
def perN (l : List UInt8) : List Nat := (List.range' 1 l.length).filter (isP l)
def toI (l : List Nat) : List Int := l.map fun (i : Nat) => (i : Int)
theorem isPer_L {l : List UInt8} {p : Nat} : isPer (strC l) p = isP l p := by
  unfold isPer isP Lib.hasPrefix
  rw [strC_size, extract_L, strC_toList, strC_toList, List.take_length]
theorem perL_L {l : List UInt8} : perL (strC l) = toI (perN l) := by
  unfold perL perTo perN toI
  rw [strC_size, Nat.add_sub_cancel]
  congr 1
  exact List.filter_congr fun x _ => isPer_L
theorem f47_eq {l : List UInt8} {N : Nat} (hl : l.length ≤ 1000) : f47 N (strC l) = some (toI (perN l)) := by
  unfold f47
  rw [if_pos (by simpa using hl), perL_L]
theorem foldl_gather {p : Nat → Bool} : ∀ (L : List Nat) (s : List Int), L.foldl (fun s i => if p i = true then s ++ [(i : Int)] else s) s = s ++ toI (L.filter p) := by
  intro L
  induction L with
  | nil => intro s; simp [toI]
  | cons x L ih =>
    intro s
    rw [List.foldl_cons, ih]
    by_cases h : p x = true <;> simp [h, toI]
theorem gather_loop {β : Type} {F : Nat → List Int → Int → Option β} {k : List Int → Option β} {p : Nat → Bool} (m : Nat)
    (hs : ∀ n s i, 1 ≤ i → i ≤ m → s.length ≤ i → F (n + 1) s (i : Int) = F n (if p i = true then s ++ [(i : Int)] else s) ((i + 1 : Nat) : Int)) (he : ∀ n s, F (n + 1) s ((m + 1 : Nat) : Int) = k s)
    {n : Nat} (hn : m < n) : F n [] (1 : Int) = k (toI ((List.range' 1 m).filter p)) := by
  have := (loop_inv (F := F) (k := k) (fun s i => if p i = true then s ++ [(i : Int)] else s) (fun i s => s.length ≤ i ∧ 1 ≤ i) (m + 1) (fun n s i hi h => hs n s i h.2 (by omega) h.1)
    (fun s i hi h => by
      refine ⟨?_, by omega⟩
      by_cases h2 : p i = true
      · simp [h2]; exact h.1
      · simp [h2]; omega) he n 1 [] (by omega) (by omega) ⟨by simp, by omega⟩).1
  rw [show ((1 : Nat) : Int) = 1 from rfl] at this
  rw [this, Nat.add_sub_cancel, foldl_gather]
  simp
theorem app_int {s : List Int} {x : Int} (h : s.length ≤ 1000) : app 8 s [x] = some (s ++ [x]) := app_ok (by simp; omega) (by simp; omega)
theorem f49_eq {l : List UInt8} {N : Nat} (hl : l.length ≤ 1000) (hN : l.length < N) : f49 N (strC l) = some (toI (perN l)) := by
  unfold f49
  simp only [joinK]
  rw [gather_loop (F := f49_3 (strC l) N f49_c7) (k := f49_c7) (p := isP l) l.length]
  · rfl
  · intro n s i h1 h2 h3
    conv => lhs; unfold f49_3 f49_3b
    simp only [strC_size, show (i : Int) ≤ (l.length : Int) by omega, decide_true, cond_true]
    rw [f50_eq hl (by omega) hN]
    simp only [Option.bind_some]
    by_cases hp : isP l i = true
    · simp only [hp, cond_true, if_true]
      rw [app_int (by omega), Option.bind_some, W_nat (by omega)]
    · simp only [Bool.not_eq_true] at hp
      simp only [hp, cond_false]
      rw [W_nat (by omega)]; rfl
  · intro n s
    conv => lhs; unfold f49_3 f49_3b
    rw [decide_eq_false (by simp; omega)]; rfl
  · omega
theorem chk8_len {l : List UInt8} (h : chk8 l = 0) : l.length ≤ 24 := (chk8_zero.1 h).2.1
theorem f16_eq {l : List UInt8} {N : Nat} (hN : 30 ≤ N) : f16 N (strC l) = some (if chk8 l = 0 then (toI (perN l), 0) else ([], chk8 l)) := by
  unfold f16
  rw [f23_eq hN]
  by_cases h : chk8 l = 0
  · have := chk8_len h
    simp only [Option.bind_some, h, not_true, decide_false, cond_false, if_true]
    rw [f47_eq (by omega)]; rfl
  · simp [h]
theorem f17_eq {l : List UInt8} {N : Nat} (hN : 30 ≤ N) : f17 N (strC l) = some (if chk8 l = 0 then (toI (perN l), 0) else ([], chk8 l)) := by
  unfold f17
  rw [f24_eq hN]
  by_cases h : chk8 l = 0
  · have := chk8_len h
    simp only [Option.bind_some, h, not_true, decide_false, cond_false, if_true]
    rw [f49_eq (by omega) (by omega)]; rfl
  · simp [h]
theorem loop_find1 {β : Type} {F : Nat → Int → Option β} {k : Nat → Option β} {p : Nat → Prop} (a m : Nat) (hm : p m)
    (hs : ∀ n i, a ≤ i → i ≤ m → ¬ p i → F (n + 1) (i : Int) = F n ((i + 1 : Nat) : Int)) (he : ∀ n i, a ≤ i → i ≤ m → p i → F (n + 1) (i : Int) = k i) :
    ∀ n i, a ≤ i → i ≤ m → m - i < n → ∃ j, i ≤ j ∧ j ≤ m ∧ p j ∧ (∀ q, i ≤ q → q < j → ¬ p q) ∧ F n (i : Int) = k j := by
  intro n
  induction n with
  | zero => intro i _ _ h; omega
  | succ n ih =>
    intro i ha hi hn
    by_cases h : p i
    · exact ⟨i, Nat.le_refl _, hi, h, fun q h1 h2 => by omega, he n i ha hi h⟩
    · have : i ≠ m := fun hh => h (hh ▸ hm)
      obtain ⟨j, h1, h2, h3, h4, h5⟩ := ih (i + 1) (by omega) (by omega) (by omega)
      refine ⟨j, by omega, h2, h3, fun q h6 h7 => ?_, (hs n i ha hi h).trans h5⟩
      by_cases hq : q = i
      · subst hq; exact h
      · exact h4 q (by omega) h7
theorem f22_eq {a b : List Int} {N : Nat} (ha : a.length ≤ 1000) (hN : a.length < N) : f22 N a b = some (decide (a = b)) := by
  unfold f22
  by_cases h : a.length = b.length
  · simp only [h, not_true, decide_false, cond_false, joinK]
    rw [loop_ex0 (F := f22_4 a b f22_c8) (k0 := f22_c8) (e := some false) (p := fun i => ∃ (h1 : i < a.length) (h2 : i < b.length), a[i] ≠ b[i]) a.length]
    · by_cases hx : ∃ j, j < a.length ∧ ∃ (h1 : j < a.length) (h2 : j < b.length), a[j] ≠ b[j]
      · rw [if_pos hx]
        obtain ⟨j, _, h1, h2, h3⟩ := hx
        rw [decide_eq_false]
        rintro rfl; exact h3 rfl
      · rw [if_neg hx, decide_eq_true]; rfl
        refine List.ext_getElem h fun i h1 h2 => ?_
        by_cases he : a[i] = b[i]
        · exact he
        · exact absurd ⟨i, h1, h1, h2, he⟩ hx
    · intro n i hi
      conv => lhs; unfold f22_4 f22_4b
      simp only [show (i : Int) < (a.length : Int) by omega, decide_true, cond_true, ix_get hi, ix_get (show i < b.length by omega), Option.bind_some]
      rw [W_nat (by omega)]
      by_cases he : a[i] = b[i]
      · rw [if_neg (by rintro ⟨_, _, h⟩; exact h he)]; simp [he]
      · rw [if_pos ⟨hi, by omega, he⟩]; simp [he]
    · intro n
      conv => lhs; unfold f22_4 f22_4b
      simp
    · exact hN
  · have : ¬ (a.length : Int) = (b.length : Int) := by omega
    simp only [this, not_false_eq_true, decide_true, cond_true]
    rw [decide_eq_false]
    rintro rfl; exact h rfl
theorem perN_len {l : List UInt8} : (perN l).length ≤ l.length := Nat.le_trans (List.length_filter_le _ _) (by simp)
theorem toI_len {a : List Nat} : (toI a).length = a.length := by simp [toI]
def rootN (l : List UInt8) : Nat := ((List.range' 1 l.length).find? fun p => decide (l.length % p = 0) && isP l p).getD l.length
theorem isP_len {l : List UInt8} : isP l l.length = true := by simp [isP]
theorem rootN_spec {l : List UInt8} (h : l ≠ []) : 1 ≤ rootN l ∧ rootN l ≤ l.length ∧ l.length % rootN l = 0 ∧ isP l (rootN l) = true ∧ ∀ q, 1 ≤ q → q < rootN l → ¬ (l.length % q = 0 ∧ isP l q = true) := by
  have hl : 0 < l.length := List.length_pos_iff.2 h
  unfold rootN
  cases hf : (List.range' 1 l.length).find? fun p => decide (l.length % p = 0) && isP l p with
  | none =>
    rw [List.find?_eq_none] at hf
    exact absurd (hf l.length (by rw [List.mem_range'_1]; omega)) (by simp [isP_len])
  | some p =>
    obtain ⟨hp, pre, suf, hab, hno⟩ := List.find?_eq_some_iff_append.1 hf
    have hm : p ∈ List.range' 1 l.length := by rw [hab]; simp
    rw [List.mem_range'_1] at hm
    simp at hp
    refine ⟨hm.1, by simp; omega, hp.1, hp.2, fun q h1 h2 => ?_⟩
    simp at h2
    have hq : q ∈ List.range' 1 l.length := by rw [List.mem_range'_1]; omega
    rw [hab] at hq
    rcases List.mem_append.1 hq with hq | hq
    · have := hno q hq
      simp at this
      rintro ⟨a, b⟩
      rcases this with h | h
      · exact h a
      · rw [h] at b; cases b
    · -- behind p are greater ones
      have hs : (List.range' 1 l.length).Pairwise (· < ·) := List.pairwise_lt_range'
      rw [hab, List.pairwise_append] at hs
      rcases List.mem_cons.1 hq with rfl | hq
      · omega
      · have := (List.pairwise_cons.1 hs.2.1).1 q hq
        omega
theorem rootR_find {l : List UInt8} (L : List Nat) (hL : ∀ p ∈ L, 1 ≤ p) : rootR (strC l) (toI (L.filter (isP l))) = match L.find? (fun p => decide (l.length % p = 0) && isP l p) with
    | some p => (strC (l.take p), ((l.length / p : Nat) : Int))
    | none => (strC l, 1) := by
  induction L with
  | nil => rfl
  | cons p L ih =>
    have ih := ih fun q hq => hL q (by simp [hq])
    have h1 := hL p (by simp)
    by_cases hp : isP l p = true
    · simp only [List.filter_cons, hp, if_true, toI, List.map_cons, rootR, strC_size, List.find?_cons]
      by_cases hd : l.length % p = 0
      · have : ((l.length : Int) % (p : Int)) = 0 := by omega
        simp only [this, if_true, hd, decide_true, Bool.and_self]
        rw [Int.toNat_natCast, extract_L]
        simp
      · have : ¬ ((l.length : Int) % (p : Int)) = 0 := by omega
        simp only [this, if_false, hd, decide_false, Bool.false_and]
        exact ih
    · simp only [Bool.not_eq_true] at hp
      simp only [List.filter_cons, hp, List.find?_cons, Bool.and_false]
      exact ih
theorem rootR_L {l : List UInt8} (h : l ≠ []) : rootR (strC l) (perL (strC l)) = (strC (l.take (rootN l)), ((l.length / rootN l : Nat) : Int)) := by
  rw [perL_L]
  unfold perN
  rw [rootR_find _ (by intro p hp; rw [List.mem_range'_1] at hp; exact hp.1)]
  have hl : 0 < l.length := List.length_pos_iff.2 h
  unfold rootN
  cases hf : (List.range' 1 l.length).find? fun p => decide (l.length % p = 0) && isP l p with
  | none =>
    rw [List.find?_eq_none] at hf
    exact absurd (hf l.length (by rw [List.mem_range'_1]; omega)) (by simp [isP_len])
  | some p => rfl
theorem chk8_rng (l : List UInt8) : 0 ≤ chk8 l ∧ chk8 l ≤ 1000 := by
  unfold chk8
  split
  · omega
  · split
    · omega
    · split <;> omega
theorem f18_eq {l : List UInt8} {N : Nat} (hN : 30 ≤ N) (hl : l.length ≤ 100) :
    f18 N (strC l) = some (if chk8 l = 0 then (strC (l.take (rootN l)), ((l.length / rootN l : Nat) : Int), 0) else (emptyS, 0, chk8 l)) := by
  unfold f18
  rw [if_pos (by simp; omega), f23_eq hN, Option.bind_some]
  have hc := chk8_rng l
  have hr : 0 ≤ (rootR (strC l) (perL (strC l))).2 ∧ (rootR (strC l) (perL (strC l))).2 ≤ 1000 ∧ (rootR (strC l) (perL (strC l))).1.size ≤ 1000 := by
    by_cases h : l = []
    · subst h
      rw [perL_L]; simp [perN, toI, rootR]
    · rw [rootR_L h]
      have := Nat.div_le_self l.length (rootN l)
      generalize l.length / rootN l = q at *
      refine ⟨by simp only []; omega, by simp only []; omega, ?_⟩
      simp
      omega
  rw [if_pos ⟨hc.1, hc.2, hr.1, hr.2.1, hr.2.2⟩]
  by_cases h : chk8 l = 0
  · rw [if_pos h, if_pos h, rootR_L (chk8_zero.1 h).1]
  · rw [if_neg h, if_neg h]
theorem tdiv_nat {a b : Nat} : Int.tdiv (a : Int) (b : Int) = ((a / b : Nat) : Int) := rfl
theorem tmod_nat {a b : Nat} : Int.tmod (a : Int) (b : Int) = ((a % b : Nat) : Int) := rfl
theorem f19_eq {l : List UInt8} {N : Nat} (hN : 30 ≤ N) (hl : l.length ≤ 100) :
    f19 N (strC l) = some (if chk8 l = 0 then (strC (l.take (rootN l)), ((l.length / rootN l : Nat) : Int), 0) else (emptyS, 0, chk8 l)) := by
  unfold f19
  rw [f24_eq hN, Option.bind_some]
  by_cases h : chk8 l = 0
  · have h24 := chk8_len h
    obtain ⟨hne, _, _⟩ := chk8_zero.1 h
    obtain ⟨r1, r2, r3, r4, r5⟩ := rootN_spec hne
    simp only [h, not_true, decide_false, cond_false, joinK, if_true]
    obtain ⟨j, j1, j2, j3, j4, j5⟩ := loop_find1 (F := f19_5 (strC l) N (f19_c7 (strC l))) (k := fun (i : Nat) => f19_c7 (strC l) (i : Int)) (p := fun i => i = rootN l) 1 (rootN l) rfl
      (fun n i h0 hi hp => by
        conv => lhs; unfold f19_5 f19_5b
        have : decide ((i : Int) ≠ 0) = true := decide_eq_true (by omega)
        simp only [this, chk, cond_true, Option.bind_some, strC_size, tmod_nat]
        by_cases hd : l.length % i = 0
        · have : ¬ ¬ ((l.length % i : Nat) : Int) = 0 := by omega
          simp only [this, decide_false, cond_false]
          rw [f50_eq (by omega) (by omega) (by omega)]
          have : isP l i = false := by
            have := r5 i (by omega) (by omega)
            cases hq : isP l i with
            | false => rfl
            | true => exact absurd ⟨hd, hq⟩ this
          simp only [this, Option.bind_some, Bool.not_false, cond_true]
          rw [W_nat (by omega)]
        · have : ¬ ((l.length % i : Nat) : Int) = 0 := by omega
          simp only [this, not_false_eq_true, decide_true, cond_true]
          rw [W_nat (by omega)])
      (fun n i h0 hi hp => by
        subst hp
        conv => lhs; unfold f19_5 f19_5b
        have : decide (((rootN l : Nat) : Int) ≠ 0) = true := decide_eq_true (by omega)
        simp only [this, chk, cond_true, Option.bind_some, strC_size, tmod_nat]
        have : ¬ ¬ ((l.length % rootN l : Nat) : Int) = 0 := by omega
        simp only [this, decide_false, cond_false]
        rw [f50_eq (by omega) (by omega) (by omega), r4]
        rfl) N 1 (by omega) r1 (by omega)
    rw [show ((1 : Nat) : Int) = 1 from rfl] at j5
    rw [j5, j3]
    unfold f19_c7
    have := subS_L (l := l) (a := 0) (b := rootN l) (by omega) r2
    rw [show ((0 : Nat) : Int) = 0 from rfl] at this
    rw [this]
    have : decide (((rootN l : Nat) : Int) ≠ 0) = true := decide_eq_true (by omega)
    have hq := Nat.div_le_self l.length (rootN l)
    simp only [this, chk, cond_true, Option.bind_some, strC_size, tdiv_nat, List.drop_zero]
    generalize l.length / rootN l = q at *
    rw [W_of (by omega) (by omega)]
  · simp [h]
end Go.Vc
namespace Go.Vc
open Go.Proofs
set_option linter.unusedVariables false
set_option linter.unnecessarySimpa false
set_option linter.unusedSimpArgs false
set_option linter.unusedSimpArgs false
def occ (l : List UInt8) (k i : Nat) : Prop := i + k ≤ l.length ∧ (l.take (i + k)).drop i = l.take k
def Cov (l : List UInt8) (k : Nat) : Prop := ∀ y, y < l.length → ∃ i, i ≤ y ∧ y < i + k ∧ occ l k i
open Classical in
noncomputable def cov (l : List UInt8) (k : Nat) : Bool := decide (Cov l k)
open Classical in
noncomputable def covN (l : List UInt8) : List Nat := (List.range' 1 l.length).filter (cov l)
theorem occ_zero {l : List UInt8} {k : Nat} (h : k ≤ l.length) : occ l k 0 := ⟨by omega, by simp⟩
open Classical in
theorem cov_eq {l : List UInt8} {k : Nat} {b : Bool} (h : b = true ↔ Cov l k) : b = cov l k := by
  unfold cov
  cases b with
  | true => exact (decide_eq_true (h.1 rfl)).symm
  | false => exact (decide_eq_false fun hh => by cases h.2 hh).symm
theorem occAt_window {l : List UInt8} {k m i : Nat} (hk : k ≤ l.length) (hm : m ≤ l.length) (hi : i + k ≤ m) : Lib.occAt (l.take m) (l.take k) i = true ↔ occ l k i := by
  unfold Lib.occAt occ
  rw [List.isPrefixOf_iff_prefix, List.prefix_iff_eq_take]
  have hl : (l.take k).length = k := by simp; omega
  rw [hl]
  have : (List.drop i (l.take m)).take k = (l.take (i + k)).drop i := by
    rw [List.take_drop, List.take_take, show min (i + k) m = i + k by omega]
  rw [this]
  constructor
  · intro h; exact ⟨by omega, h.symm⟩
  · rintro ⟨_, h⟩; exact h.symm
theorem last_spec {l : List UInt8} {k m : Nat} (hk : k ≤ l.length) (hm : m ≤ l.length) (hkm : k ≤ m) :
    ∃ i : Nat, Lib.lastIndex (l.take m) (l.take k) = i ∧ i + k ≤ m ∧ occ l k i ∧ ∀ j, i < j → j + k ≤ m → ¬ occ l k j := by
  have h1 : (l.take m).length = m := by simp; omega
  have h2 : (l.take k).length = k := by simp; omega
  unfold Lib.lastIndex
  rw [h1, h2, if_pos hkm]
  rcases Lib.lastOcc_spec (l.take m) (l.take k) (m - k + 1) with ⟨_, hn⟩ | ⟨i, hi, e, hc, hn⟩
  · have := hn 0 (by omega)
    rw [Bool.eq_false_iff] at this
    exact absurd ((occAt_window hk hm (by omega)).2 (occ_zero hk)) this
  · refine ⟨i, e, by omega, (occAt_window hk hm (by omega)).1 hc, fun j h3 h4 ho => ?_⟩
    have := hn j h3 (by omega)
    rw [Bool.eq_false_iff] at this
    exact this ((occAt_window hk hm h4).2 ho)
theorem f70_eq {a b : List UInt8} {N : Nat} (ha : a.length ≤ 1000) (h : -1 ≤ Lib.lastIndex a b ∧ Lib.lastIndex a b ≤ 1000) : f70 N (strC a) (strC b) = some (Lib.lastIndex a b) := by
  unfold f70
  rw [strC_toList, strC_toList]
  exact if_pos ⟨h.1, h.2, by simpa using ha⟩
theorem f51_loop {l : List UInt8} {k N : Nat} (hl : l.length ≤ 100) (h1 : 1 ≤ k) (hk : k ≤ l.length) : ∀ (n t : Nat), t ≤ l.length → l.length - t < n → (∀ y, y < t → ∃ i, i ≤ y ∧ y < i + k ∧ occ l k i) →
    f51_2 (strC l) (k : Int) N f51_c7 n (t : Int) = some (cov l k) := by
  intro n
  induction n with
  | zero => intro t _ h; omega
  | succ n ih =>
    intro t ht hn hA
    unfold f51_2 f51_2b
    by_cases he : t < l.length
    · simp only [strC_size, show (t : Int) < (l.length : Int) by omega, decide_true, cond_true]
      rw [show ((t : Int) + (k : Int)) = ((t + k : Nat) : Int) by omega, W_of (by omega) (by omega)]
      rw [show (min ((t + k : Nat) : Int) (l.length : Int)) = ((min (t + k) l.length : Nat) : Int) by omega]
      have s1 := subS_L (l := l) (a := 0) (b := min (t + k) l.length) (by omega) (by omega)
      have s2 := subS_L (l := l) (a := 0) (b := k) (by omega) (by omega)
      rw [show ((0 : Nat) : Int) = 0 from rfl] at s1 s2
      rw [s1, s2]
      simp only [Option.bind_some, List.drop_zero]
      obtain ⟨i, e, hi, ho, hno⟩ := last_spec (l := l) (k := k) (m := min (t + k) l.length) hk (by omega) (by omega)
      rw [f70_eq (by simp; omega) (by rw [e]; omega), e, Option.bind_some]
      rw [show ((i : Int) + (k : Int)) = ((i + k : Nat) : Int) by omega, W_of (by omega) (by omega)]
      by_cases hc : i + k ≤ t
      · simp only [show ((i + k : Nat) : Int) ≤ (t : Int) by omega, decide_true, cond_true]
        congr 1
        refine cov_eq ⟨fun h => (by cases h), fun h => ?_⟩
        obtain ⟨j, j1, j2, j3⟩ := h t he
        have := j3.1
        by_cases hj : i < j
        · exact absurd j3 (hno j hj (by omega))
        · omega
      · simp only [show ¬ ((i + k : Nat) : Int) ≤ (t : Int) by omega, decide_false, cond_false]
        refine ih (i + k) (by omega) (by omega) fun y hy => ?_
        by_cases hyt : y < t
        · exact hA y hyt
        · exact ⟨i, by omega, hy, ho⟩
    · have : t = l.length := by omega
      subst this
      simp only [strC_size, Int.lt_irrefl, decide_false, cond_false]
      show some true = _
      congr 1
      exact cov_eq ⟨fun _ => hA, fun _ => rfl⟩
theorem f51_eq {l : List UInt8} {k N : Nat} (hl : l.length ≤ 100) (h1 : 1 ≤ k) (hk : k ≤ l.length) (hN : l.length < N) : f51 N (strC l) (k : Int) = some (cov l k) := by
  unfold f51
  simp only [joinK]
  exact f51_loop hl h1 hk N 0 (by omega) (by omega) fun y hy => by omega
theorem f20_eq {l : List UInt8} {N : Nat} (hN : 30 ≤ N) : f20 N (strC l) = some (if chk8 l = 0 then (toI (covN l), 0) else ([], chk8 l)) := by
  unfold f20
  rw [f23_eq hN]
  by_cases h : chk8 l = 0
  · have := chk8_len h
    simp only [Option.bind_some, h, not_true, decide_false, cond_false, if_true, joinK]
    rw [gather_loop (F := f20_6 (strC l) N f20_c10) (k := f20_c10) (p := cov l) l.length]
    · rfl
    · intro n s i h1 h2 h3
      conv => lhs; unfold f20_6 f20_6b
      simp only [strC_size, show (i : Int) ≤ (l.length : Int) by omega, decide_true, cond_true]
      rw [f51_eq (by omega) h1 h2 (by omega)]
      simp only [Option.bind_some]
      by_cases hp : cov l i = true
      · simp only [hp, cond_true, if_true]
        rw [app_int (by omega), Option.bind_some, W_nat (by omega)]
      · simp only [Bool.not_eq_true] at hp
        simp only [hp, cond_false]
        rw [W_nat (by omega)]; rfl
    · intro n s
      conv => lhs; unfold f20_6 f20_6b
      rw [decide_eq_false (by simp; omega)]; rfl
    · omega
  · simp [h]
theorem f21_loop {l : List UInt8} {k : Nat} {out : List Int} {k2 : Int → Option (List Int × Int)} (hl : l.length ≤ 100) (h1 : 1 ≤ k) (hk : k ≤ l.length) :
    ∀ (n i t : Nat), i + k ≤ l.length + 1 → l.length - i < n → t ≤ l.length → (∀ y, y < t → ∃ j, j ≤ y ∧ y < j + k ∧ occ l k j) → (∀ j, j < i → occ l k j → j ≤ t → j + k ≤ t) →
    ∃ t' : Nat, f21_10 (strC l) out (k : Int) k2 n (t : Int) (i : Int) = k2 (t' : Int) ∧ (t' = l.length ↔ Cov l k) := by
  intro n
  induction n with
  | zero => intro i t _ h; omega
  | succ n ih =>
    intro i t hi hn ht hA hB
    unfold f21_10 f21_10b
    rw [show ((i : Int) + (k : Int)) = ((i + k : Nat) : Int) by omega, W_of (by omega) (by omega)]
    by_cases hr : i + k ≤ l.length
    · simp only [strC_size, show ((i + k : Nat) : Int) ≤ (l.length : Int) by omega, decide_true, cond_true]
      by_cases hc : i ≤ t
      · simp only [show (i : Int) ≤ (t : Int) by omega, decide_true, cond_true]
        have s2 := subS_L (l := l) (a := 0) (b := k) (by omega) (by omega)
        rw [show ((0 : Nat) : Int) = 0 from rfl] at s2
        rw [subS_L (by omega) hr, s2]
        simp only [Option.bind_some, List.drop_zero, strC_inj]
        rw [W_nat (by omega)]
        by_cases ho : (l.take (i + k)).drop i = l.take k
        · simp only [ho, decide_true, cond_true]
          refine ih (i + 1) (i + k) (by omega) (by omega) hr (fun y hy => ?_) (fun j hj hoj hjt => ?_)
          · by_cases hyt : y < t
            · exact hA y hyt
            · exact ⟨i, by omega, hy, hr, ho⟩
          · by_cases hji : j = i
            · omega
            · omega
        · simp only [ho, decide_false, cond_false]
          refine ih (i + 1) t (by omega) (by omega) ht hA (fun j hj hoj hjt => ?_)
          by_cases hji : j = i
          · subst hji; exact absurd hoj.2 ho
          · exact hB j (by omega) hoj hjt
      · simp only [show ¬ (i : Int) ≤ (t : Int) by omega, decide_false, cond_false]
        rw [W_nat (by omega)]
        exact ih (i + 1) t (by omega) (by omega) ht hA (fun j hj hoj hjt => hB j (by omega) hoj hjt)
    · simp only [strC_size, show ¬ ((i + k : Nat) : Int) ≤ (l.length : Int) by omega, decide_false, cond_false]
      refine ⟨t, rfl, fun he => ?_, fun hC => ?_⟩
      · subst he; exact hA
      · by_cases he : t = l.length
        · exact he
        · obtain ⟨j, j1, j2, j3⟩ := hC t (by omega)
          have := j3.1
          have := hB j (by omega) j3 j1
          omega
theorem f21_eq {l : List UInt8} {N : Nat} (hN : 30 ≤ N) : f21 N (strC l) = some (if chk8 l = 0 then (toI (covN l), 0) else ([], chk8 l)) := by
  unfold f21
  rw [f24_eq hN]
  by_cases h : chk8 l = 0
  · have := chk8_len h
    simp only [Option.bind_some, h, not_true, decide_false, cond_false, if_true, joinK]
    rw [gather_loop (F := f21_6 (strC l) N f21_c16) (k := f21_c16) (p := cov l) l.length]
    · rfl
    · intro n s i h1 h2 h3
      conv => lhs; unfold f21_6 f21_6b
      simp only [strC_size, show (i : Int) ≤ (l.length : Int) by omega, decide_true, cond_true, joinK]
      obtain ⟨t, e, ht⟩ := f21_loop (l := l) (k := i) (out := s) (k2 := f21_c14 (strC l) s (i : Int) (f21_c7 (strC l) (i : Int) (f21_6 (strC l) N f21_c16 n))) (by omega) h1 h2 N 0 0 (by omega) (by omega) (by omega) (fun y hy => by omega) (fun j hj => by omega)
      rw [show ((0 : Nat) : Int) = 0 from rfl] at e
      rw [e]
      unfold f21_c14 f21_c7
      by_cases hp : Cov l i
      · have hc : cov l i = true := (cov_eq ⟨fun _ => hp, fun _ => rfl⟩).symm
        simp only [hc, strC_size, ht.2 hp, decide_true, cond_true, if_true]
        rw [app_int (by omega), Option.bind_some, W_nat (by omega)]
      · have hc : cov l i = false := (cov_eq ⟨fun h => (by cases h), fun h => absurd h hp⟩).symm
        have : ¬ (t : Int) = (l.length : Int) := fun h => hp (ht.1 (by omega))
        simp only [hc, strC_size, this, decide_false, cond_false]
        rw [W_nat (by omega)]; rfl
    · intro n s
      conv => lhs; unfold f21_6 f21_6b
      rw [decide_eq_false (by simp; omega)]; rfl
    · omega
  · simp [h]
theorem covN_len {l : List UInt8} : (covN l).length ≤ l.length := Nat.le_trans (List.length_filter_le _ _) (by simp)
end Go.Vc
namespace Go.Vc
open Go.Proofs
set_option maxRecDepth 100000
theorem t15 : f15 60 = some true := by decide +kernel
end Go.Vc
namespace Go.Vc
open Go.Proofs
set_option linter.unusedVariables false
set_option linter.unnecessarySimpa false
set_option linter.unusedSimpArgs false
set_option linter.unusedSimpArgs false
theorem f3_true (a0 : ByteArray) : f3 60 a0 = some true := by
  obtain ⟨l, rfl⟩ := S_ex a0
  unfold f3
  rw [t15]
  by_cases h : 100 < l.length
  · simp [show (100 : Int) < (l.length : Int) by omega]
  · simp only [strC_size, show ¬ (100 : Int) < (l.length : Int) by omega, decide_false, cond_false]
    rw [f16_eq (by omega), f17_eq (by omega), f18_eq (by omega) (by omega), f19_eq (by omega) (by omega), f20_eq (by omega), f21_eq (by omega), f23_eq (by omega), f24_eq (by omega)]
    simp only [Option.bind_some]
    have hp : (if chk8 l = 0 then (toI (perN l), (0 : Int)) else ([], chk8 l)).1.length ≤ 24 := by
      split
      · have := chk8_len (l := l) (by assumption)
        have := perN_len (l := l)
        simp only [toI_len]; omega
      · simp
    have hc : (if chk8 l = 0 then (toI (covN l), (0 : Int)) else ([], chk8 l)).1.length ≤ 24 := by
      split
      · have := chk8_len (l := l) (by assumption)
        have := covN_len (l := l)
        simp only [toI_len]; omega
      · simp
    rw [f22_eq (by omega) (by omega), f22_eq (by omega) (by omega)]
    simp
end Go.Vc
namespace Go.Vc
set_option linter.unusedVariables false
set_option linter.unnecessarySimpa false
set_option linter.unusedSimpArgs false
set_option linter.unusedSimpArgs false
abbrev tS : Ty := .str
theorem tS_of {ds : List D} (h : tS.has ds) : ∃ s, ds = [strN s] := by
  simp only [tS, Ty.has] at h
  obtain ⟨s, rfl, _⟩ := h
  exact ⟨s, rfl⟩
theorem tS_ofD {x : D} (h : tS.hasD x) : ∃ s, x = strN s := by
  obtain ⟨n, h1⟩ := tS_of (ds := [x]) h
  exact ⟨n, List.singleton_inj.1 h1⟩
end Go.Vc

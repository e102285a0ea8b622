/-
  A library for proofs about Go functions by symbolic evaluation, and plain Lean functions that the walked Go functions compute (written by a program of this claim).
-/
import Derived.Test.YtnbefdolkolaiaaW1
import Derived.Maps.OwnIn
import Derived.Sort.MapsRangeIn
import Derived.Maps.RangeRun
namespace Go.Vc
open Go.Proofs
set_option linter.unusedVariables false
set_option linter.unnecessarySimpa false
set_option linter.unusedSimpArgs false
section
variable {c : Ctx} {p nid : Nat} {a b : Code} {st : St} {K : Ex → St → Prop}
/- f25: tusche/repeat.Wide -/
def f25_c14 (b302_0 : List Int) : Option (ByteArray × Int) :=
 (strOf b302_0).bind fun x5 =>
 some (x5, (0 : Int))
def Lf25_c14 : Lp ((List Int)) (Nat) (ByteArray × Int) := ⟨⟨[8], [302, 90500], [(.cell 302 0, 90500, 5, 1)], []⟩, fun _ => [.ptr 302 0], fun b302_0 => [.box [.rs 90500 (List.length b302_0)], .row 5 1 (List.map u8N b302_0)], fun b302_0 => f25_c14 b302_0, fun _ _ => [.ptr 302 0], fun b302_0 m0 => [.box [.rs 90500 m0], .row 5 1 (List.map u8N b302_0)], fun b302_0 => List.length b302_0, fun _ => rfl, fun _ => rfl⟩
theorem Ef25_c14 {b302_0} : (Lf25_c14).E b302_0 = f25_c14 b302_0 := rfl
def f25_8b (r8 : Int → (List Int) → Int → Option (ByteArray × Int)) (a0 : Int) (a1 : Int) (a2 : Int) (N : Nat) (x4 : List Int) (k0 : (List Int) → Option (ByteArray × Int)) (v32 : Int) (b302_0 : List Int) (b400_0 : Int) : Option (ByteArray × Int) :=
 bif decide (v32 < (List.length x4 : Int)) then ((ix b302_0 v32).bind fun x6 =>
 bif decide (x6 = (0 : Int)) then ((f53 N v32 a2 b400_0 a0 a1 b302_0).bind fun x7 =>
 (keepL b302_0 x7).bind fun x8 =>
 r8 (W (v32 + (1 : Int))) x8 (Wk .u8 (b400_0 + (1 : Int))))
 else (r8 (W (v32 + (1 : Int))) b302_0 b400_0))
 else (k0 b302_0)
def f25_8 (a0 : Int) (a1 : Int) (a2 : Int) (N : Nat) (x4 : List Int) (k0 : (List Int) → Option (ByteArray × Int)) : Nat → Int → (List Int) → Int → Option (ByteArray × Int)
  | 0, _, _, _ => none
  | n + 1, v32, b302_0, b400_0 => f25_8b (f25_8 a0 a1 a2 N x4 k0 n) a0 a1 a2 N x4 k0 v32 b302_0 b400_0
def Lf25_8 (a0 : Int) (a1 : Int) (a2 : Int) (N : Nat) (x4 : List Int) (k0 : (List Int) → Option (ByteArray × Int)) : Lp (Nat × Int × (List Int) × Int) (Nat × Nat) (ByteArray × Int) := ⟨⟨[8, 9, 10, 31, 32], [0, 1, 2, 302, 400, 500, 90500], [(.cell 302 0, 90500, 5, 1)], []⟩, fun (_, v32, _, _) => [.ptr 302 0, .ptr 400 0, .ptr 500 0, .dat (iN (List.length x4 : Int)), .dat (iN v32)], fun (_, _, b302_0, b400_0) => [.box [.dat (iN a0)], .box [.dat (iN a1)], .box [.dat (iN a2)], .box [.rs 90500 (List.length b302_0)], .box [.dat (u8N b400_0)], .box [.fn 53 [] [.ptr 2 0, .ptr 302 0, .ptr 400 0, .ptr 0 0, .ptr 1 0, .ptr 500 0]], .row 5 1 (List.map u8N b302_0)], fun (n, v32, b302_0, b400_0) => f25_8 a0 a1 a2 N x4 k0 n v32 b302_0 b400_0, fun (_, v32, _, _) (m0, _) => [.ptr 302 0, .ptr 400 0, .ptr 500 0, .dat (iN (m0 : Int)), .dat (iN v32)], fun (_, _, b302_0, b400_0) (_, m1) => [.box [.dat (iN a0)], .box [.dat (iN a1)], .box [.dat (iN a2)], .box [.rs 90500 m1], .box [.dat (u8N b400_0)], .box [.fn 53 [] [.ptr 2 0, .ptr 302 0, .ptr 400 0, .ptr 0 0, .ptr 1 0, .ptr 500 0]], .row 5 1 (List.map u8N b302_0)], fun (_, _, b302_0, _) => (List.length x4, List.length b302_0), fun _ => rfl, fun _ => rfl⟩
theorem Ef25_8 {a0 a1 a2 N x4 k0 n v32 b302_0 b400_0} : (Lf25_8 a0 a1 a2 N x4 k0).E (n, v32, b302_0, b400_0) = f25_8 a0 a1 a2 N x4 k0 n v32 b302_0 b400_0 := rfl
def f25 (N : Nat) (a0 : Int) (a1 : Int) (a2 : Int) : Option (ByteArray × Int) :=
 (f52 N (1 : Int) a2 (24 : Int)).bind fun x1 =>
 bif !x1 then (some (emptyS, (3 : Int)))
 else ((f52 N (1 : Int) a0 a2).bind fun x2 =>
 bif !x2 then (some (emptyS, (3 : Int)))
 else ((f52 N (1 : Int) a1 a2).bind fun x3 =>
 bif !x3 then (some (emptyS, (3 : Int)))
 else ((mkS 1 (0 : Int) a2 a2).bind fun x4 =>
 joinK f25_c14 fun k0 =>
 f25_8 a0 a1 a2 N x4 k0 N (0 : Int) x4 (97 : Int))))
def G25 (ds : List D) (d : D) : Prop := ∃ (N : Nat) (a0 : Int) (a1 : Int) (a2 : Int) (r : ByteArray × Int), ds = [iN a0, iN a1, iN a2] ∧ f25 N a0 a1 a2 = some r ∧ d = .tup [strN r.1, iN r.2]
theorem G25.lend {N : Nat} {a0 : Int} {a1 : Int} {a2 : Int} {ρ : Type} {A : (ByteArray × Int) → Option ρ} {q : ρ} {ds : List D} {K : D → Prop} (hd : ds = [iN a0, iN a1, iN a2]) (h : ∀ r, A r = some q → K (.tup [strN r.1, iN r.2])) (hF : (f25 N a0 a1 a2).bind A = some q) : ∃ d, (G25 ds d ∧ d.flatB = true) ∧ K d := by
  obtain ⟨r, hr, hA⟩ := bind_some hF
  exact ⟨_, ⟨⟨N, a0, a1, a2, r, hd, hr, rfl⟩, rfl⟩, h r hA⟩
theorem G25.step {N : Nat} {a0 : Int} {a1 : Int} {a2 : Int} {ρ : Type} {A : (ByteArray × Int) → Option ρ} {q : ρ} {ds : List D} {K : D → Prop} (hd : ds = [iN a0, iN a1, iN a2]) (h : ∀ r, A r = some q → K (.tup [strN r.1, iN r.2])) (hF : (f25 N a0 a1 a2).bind A = some q) : ∃ d, G25 ds d ∧ K d := by
  obtain ⟨r, hr, hA⟩ := bind_some hF
  exact ⟨_, ⟨N, a0, a1, a2, r, hd, hr, rfl⟩, h r hA⟩
set_option maxRecDepth 20000 in
set_option maxHeartbeats 4000000 in
theorem P25 : PureOK Try.prog 25 G25 := by
  refine pure_of_vc (c := mkCtx tyTree [(53, false, effPg Spf53 G53), (52, true, lendPg [[0], [0], [0]] G52)]) rfl tyOK (ctx_eff (callable Try.func53 rfl rfl) P53 (ctx_lend (callable Try.func52 rfl rfl) P52 (ctx_nil))) [[0], [0]] 3 Try.func25 rfl rfl (by decide) (by kernel_rfl) ?_
  rintro ds d ⟨N, a0, a1, a2, r, rfl, hF, rfl⟩ hok
  clear hok
  refine ⟨rfl, ?_⟩
  show vc _ _ _ _ ⟨[(0, .dat (iN a0)), (1, .dat (iN a1)), (2, .dat (iN a2))], []⟩ _
  unfold f25 at hF
  repeat' (first
    | ((with_reducible first | refine q0 _ _ ?_ | refine q1 _ _ _ _ ?_ | refine q2 _ _ _ ?_); clear Q q0 q1 q2)
    | ((with_reducible first | refine seq_op ?hx (fun Q q0 q1 q2 => ?_) | refine seq_op0 ?hx (fun Q q0 q1 q2 => ?_)); (case hx => exact rfl); conv => whnf)
    | ((with_reducible first | refine seq_off ?hx ?_ | refine seq_off0 ?hx ?_ | refine k_blk_out ?hx ?_ | refine vc_condT ?hx ?_); (case hx => exact rfl))
    | ((with_reducible refine seq_id ?_); (first | ((first | refine seq_opK rfl ?hy (fun Q q0 q1 q2 => ?_) | refine seq_opK0 rfl ?hy (fun Q q0 q1 q2 => ?_)); (case hy => first | assumption | exact notT (by assumption) | exact rfl); conv => whnf) | ((first | refine seq_offK rfl ?hy ?_ | refine seq_offK0 rfl ?hy ?_); (case hy => first | assumption | exact notF (by assumption) | exact rfl)) | (revert hF; (with_reducible first | refine seq_opF ?hx ?_ ?_ | refine seq_opF0 ?hx ?_ ?_); (case hx => exact rfl); (intro hc hF Q q0 q1 q2; conv => whnf); rotate_left; (intro hc hF); rotate_right) | (revert hF; (with_reducible first | refine seq_opN ?hx ?_ ?_ | refine seq_opN0 ?hx ?_ ?_); (case hx => exact rfl); (intro hc hF); rotate_left; (intro hc hF Q q0 q1 q2; conv => whnf); rotate_right)))
    | ((with_reducible refine cond_id ?_); (first | ((refine condKT rfl ?hy ?_); (case hy => first | assumption | exact notT (by assumption) | exact rfl)) | ((refine condKF rfl ?hy ?_); (case hy => first | assumption | exact notF (by assumption) | exact rfl)) | (revert hF; (with_reducible refine condF ?hx ?_ ?_); (case hx => exact rfl); all_goals (intro hc hF))))
    | ((with_reducible refine seq_nil ?_); (first | ((with_reducible refine hR _ ?_); clear R hR) | ((with_reducible refine hL _ ?_); clear L hL)))
    | ((with_reducible first | refine int_step ?_ | refine len_step ?_ | refine idx2 (by assumption) ?_ | refine idx3 (by assumption) ?_); conv => whnf)
    | (with_reducible first | refine vc_block ?_ | refine vc_skip ?_ | refine vc_ret ?_ | refine vc_exit ?_ | refine vc_region (fun R hR => ?_) | refine k_seq_ret ?_ | refine k_seq_exit ?_ | refine k_blk ?_ | refine k_blk_ret ?_ | refine k_blk_here ?_ | refine k_loop_ret ?_ | refine k_loop_exit ?_)
    | ((with_reducible refine vc_seqN [14] ?hx ?_); (case hx => exact rfl))
    | (revert hF; (refine Lp.cut0 Lf25_c14 f25_c14 14 rfl rfl ?_ ?_); (intro hF); rotate_left; (rintro b302_0 hF; dsimp only [Lf25_c14] at hF; unfold f25_c14 at hF); rotate_right)
    | exact Lp.head Ef25_c14 hF _ ⟨_, rfl, rfl, rfl, rfl⟩ (by first | exact rfl | ((try dsimp only [Lf25_c14]); first | assumption | omega | (simp only [List.length_set]; done)))
    | (revert hF; (refine Lp.loop Ef25_8 (_, _) rfl ⟨_, rfl, rfl, rfl, rfl⟩ (pr2 (by first | exact rfl | ((try dsimp only [Lf25_8]); first | assumption | omega | (simp only [List.length_set]; done))) (by first | exact rfl | ((try dsimp only [Lf25_8]); first | assumption | omega | (simp only [List.length_set]; done)))) (fun _ => rfl) ?_); rintro n ⟨v32, b302_0, b400_0⟩ hF; dsimp only [Lf25_8, f25_8] at hF; unfold f25_8b at hF)
    | exact Lp.back Ef25_8 hF (_, _) ⟨_, rfl, rfl, rfl, rfl⟩ (pr2 (by first | exact rfl | ((try dsimp only [Lf25_8]); first | assumption | omega | (simp only [List.length_set]; done))) (by first | exact rfl | ((try dsimp only [Lf25_8]); first | assumption | omega | (simp only [List.length_set]; done))))
    | (revert hF; (with_reducible refine G52.lend ?hx ?_); (case hx => exact rfl); intro v hF; conv => whnf)
    | (revert hF; (refine G53.step rfl rfl rfl rfl rfl rfl rfl rfl (by first | exact rfl | assumption | omega | (simp only [List.length_set]; done)) rfl ?hn ?_); (case hn => exact rfl); intro v hF; conv => whnf)
    | (revert hF; (refine mkS_row (d := u8N) ?hz ?_); (case hz => exact rfl); intro x hF; conv => whnf)
    | (revert hF; (first | refine strOf_step (fun _ h => h) ?_ | refine strOf_step2 ?_); intro x hF; conv => whnf)
    | ((with_reducible have hG := keep_fact hF); have hk := hG.1; have hF := hG.2; clear hG)
    | (revert hF; (with_reducible refine idx1 ?hn ?_); (case hn => first | exact rfl | exact (List.length_map _) | assumption | omega | simp); intro x hx hF; conv => whnf)
    | ((refine row_all ?hn ?_); (case hn => first | exact rfl | (simp; done) | (simp; omega)); conv => whnf)
    | ((with_reducible refine le_step ?hn ?_); (case hn => first | exact rfl | assumption | omega); conv => whnf)
    | ((refine ⟨?hx, ?_⟩); (case hx => exact ⟨rfl, Nat.le_of_ble_eq_true rfl, rfl⟩); conv => whnf)
    | ((with_reducible refine ex_step ?_); conv => whnf)
    | ((with_reducible refine both_T ?hx ?_); (case hx => first | exact rfl | assumption | exact notT (by assumption)); conv => whnf)
    | ((with_reducible refine both_F ?hx ?_); (case hx => first | exact rfl | assumption | exact notF (by assumption)); conv => whnf)
    | (revert hF; (with_reducible refine ite_step ?_ ?_) <;> (intro hc hF; conv => whnf))
    | ((with_reducible refine vc_condF ?hx ?_); (case hx => exact rfl))
    | (show retD _ _ _ _ _ _; conv => whnf)
    | ((refine ⟨?hx, trivial⟩); (case hx => (cases hF; exact rfl)))
    | ((refine ⟨?hx, ?_⟩); (case hx => decide); conv => whnf)
    | with_reducible refine k_seq ?_
    | (have hF : (none : Option _) = some _ := hF; cases hF))
end
end Go.Vc
namespace Go.Vc
open Go.Proofs
set_option linter.unusedVariables false
set_option linter.unnecessarySimpa false
set_option linter.unusedSimpArgs false
section
variable {c : Ctx} {p nid : Nat} {a b : Code} {st : St} {K : Ex → St → Prop}
/- f55: slices.Equal[[]int,int] -/
def f55_c9 : Option (Bool) :=
 some (true)
def Lf55_c9 : Lp (Unit) Unit (Bool) := lp0 ⟨[], [], [], []⟩ (fun _ => []) (fun _ => []) (fun _ => f55_c9)
theorem Ef55_c9 : (Lf55_c9).E () = f55_c9 := rfl
def f55_4b (r4 : Int → Option (Bool)) (a0 : List Int) (a1 : List Int) (k0 : Option (Bool)) (v13 : Int) : Option (Bool) :=
 bif decide (v13 < (List.length a0 : Int)) then ((ix a0 v13).bind fun x1 =>
 (ix a1 v13).bind fun x2 =>
 bif decide (¬ x1 = x2) then (some (false))
 else (r4 (W (v13 + (1 : Int)))))
 else k0
def f55_4 (a0 : List Int) (a1 : List Int) (k0 : Option (Bool)) : Nat → Int → Option (Bool)
  | 0, _ => none
  | n + 1, v13 => f55_4b (f55_4 a0 a1 k0 n) a0 a1 k0 v13
def Lf55_4 (a0 : List Int) (a1 : List Int) (k0 : Option (Bool)) : Lp (Nat × Int) Unit (Bool) := lp0 ⟨[0, 1, 12, 13], [], [], []⟩ (fun (_, v13) => [.dat (sl_iN a0), .dat (sl_iN a1), .dat (iN (List.length a0 : Int)), .dat (iN v13)]) (fun (_, _) => []) (fun (n, v13) => f55_4 a0 a1 k0 n v13)
theorem Ef55_4 {a0 a1 k0 n v13} : (Lf55_4 a0 a1 k0).E (n, v13) = f55_4 a0 a1 k0 n v13 := rfl
def f55 (N : Nat) (a0 : List Int) (a1 : List Int) : Option (Bool) :=
 bif decide (¬ (List.length a0 : Int) = (List.length a1 : Int)) then (some (false))
 else (joinK f55_c9 fun k0 =>
 f55_4 a0 a1 k0 N (0 : Int))
def G55 (ds : List D) (d : D) : Prop := ∃ (N : Nat) (a0 : List Int) (a1 : List Int) (r : Bool), ds = [sl_iN a0, sl_iN a1] ∧ f55 N a0 a1 = some r ∧ d = bN r
theorem G55.lend {N : Nat} {a0 : List Int} {a1 : List Int} {ρ : Type} {A : Bool → Option ρ} {q : ρ} {ds : List D} {K : D → Prop} (hd : ds = [sl_iN a0, sl_iN a1]) (h : ∀ r, A r = some q → K (bN r)) (hF : (f55 N a0 a1).bind A = some q) : ∃ d, (G55 ds d ∧ d.flatB = true) ∧ K d := by
  obtain ⟨r, hr, hA⟩ := bind_some hF
  exact ⟨_, ⟨⟨N, a0, a1, r, hd, hr, rfl⟩, rfl⟩, h r hA⟩
theorem G55.step {N : Nat} {a0 : List Int} {a1 : List Int} {ρ : Type} {A : Bool → Option ρ} {q : ρ} {ds : List D} {K : D → Prop} (hd : ds = [sl_iN a0, sl_iN a1]) (h : ∀ r, A r = some q → K (bN r)) (hF : (f55 N a0 a1).bind A = some q) : ∃ d, G55 ds d ∧ K d := by
  obtain ⟨r, hr, hA⟩ := bind_some hF
  exact ⟨_, ⟨N, a0, a1, r, hd, hr, rfl⟩, h r hA⟩
set_option maxRecDepth 20000 in
set_option maxHeartbeats 4000000 in
theorem P55 : PureOK Try.prog 55 G55 := by
  refine pure_of_vc (c := mkCtx tyTree []) rfl tyOK (ctx_nil) [[0]] 2 Try.func55 rfl rfl (by decide) (by kernel_rfl) ?_
  rintro ds d ⟨N, a0, a1, r, rfl, hF, rfl⟩ hok
  clear hok
  refine ⟨rfl, ?_⟩
  show vc _ _ _ _ ⟨[(0, .dat (sl_iN a0)), (1, .dat (sl_iN a1))], []⟩ _
  unfold f55 at hF
  repeat' (first
    | ((with_reducible first | refine q0 _ _ ?_ | refine q1 _ _ _ _ ?_ | refine q2 _ _ _ ?_); clear Q q0 q1 q2)
    | ((with_reducible first | refine seq_op ?hx (fun Q q0 q1 q2 => ?_) | refine draw_op ?hx (fun Q q0 q1 q2 => ?_)); (case hx => exact rfl); conv => whnf)
    | ((with_reducible refine cond_id ?_); (first | ((refine condKT rfl ?hy ?_); (case hy => first | assumption | exact notT (by assumption) | exact rfl)) | ((refine condKF rfl ?hy ?_); (case hy => first | assumption | exact notF (by assumption) | exact rfl)) | (revert hF; (with_reducible refine condF ?hx ?_ ?_); (case hx => exact rfl); all_goals (intro hc hF))))
    | ((with_reducible refine seq_nil ?_); (first | ((with_reducible refine hR _ ?_); clear R hR) | ((with_reducible refine hL _ ?_); clear L hL)))
    | ((with_reducible refine draw_nil ?_); (with_reducible refine hR _ _ ?hx ?_); (case hx => kernel_rfl); (first | clear R hR | clear hR))
    | ((with_reducible first | refine int_step ?_ | refine len_step ?_ | refine idx2 (by assumption) ?_ | refine idx3 (by assumption) ?_); conv => whnf)
    | (with_reducible first | refine vc_block ?_ | refine vc_skip ?_ | refine vc_ret ?_ | refine vc_exit ?_ | refine vc_region (fun R hR => ?_) | refine k_seq_ret ?_ | refine k_seq_exit ?_ | refine k_blk ?_ | refine k_blk_ret ?_ | refine k_blk_here ?_ | refine k_loop_ret ?_ | refine k_loop_exit ?_)
    | ((with_reducible refine vc_seqN [9] ?hx ?_); (case hx => exact rfl))
    | ((with_reducible refine vc_draw ?hx (fun R hR => ?_)); (case hx => exact rfl))
    | (revert hF; (refine Lp.cut0 Lf55_c9 f55_c9 9 rfl rfl ?_ ?_); (intro hF); rotate_left; (rintro _ hF; dsimp only [Lf55_c9] at hF; unfold f55_c9 at hF); rotate_right)
    | exact Lp.head Ef55_c9 hF () ⟨_, rfl, rfl, rfl, rfl⟩ rfl
    | (revert hF; (refine Lp.loop Ef55_4 () rfl ⟨_, rfl, rfl, rfl, rfl⟩ rfl (fun _ => rfl) ?_); rintro n v13 hF; dsimp only [Lf55_4, f55_4] at hF; unfold f55_4b at hF)
    | exact Lp.back Ef55_4 hF () ⟨_, rfl, rfl, rfl, rfl⟩ rfl
    | ((with_reducible first | refine k_blk_out ?hx ?_ | refine vc_condT ?hx ?_); (case hx => exact rfl))
    | (revert hF; (with_reducible refine idx1 ?hn ?_); (case hn => first | exact rfl | exact (List.length_map _) | assumption | omega | simp); intro x hx hF; conv => whnf)
    | ((refine row_all ?hn ?_); (case hn => first | exact rfl | (simp; done) | (simp; omega)); conv => whnf)
    | ((with_reducible refine le_step ?hn ?_); (case hn => first | exact rfl | assumption | omega); conv => whnf)
    | ((refine ⟨?hx, ?_⟩); (case hx => exact ⟨rfl, Nat.le_of_ble_eq_true rfl, rfl⟩); conv => whnf)
    | ((with_reducible refine ex_step ?_); conv => whnf)
    | ((with_reducible refine both_T ?hx ?_); (case hx => first | exact rfl | assumption | exact notT (by assumption)); conv => whnf)
    | ((with_reducible refine both_F ?hx ?_); (case hx => first | exact rfl | assumption | exact notF (by assumption)); conv => whnf)
    | (revert hF; (with_reducible refine ite_step ?_ ?_) <;> (intro hc hF; conv => whnf))
    | ((with_reducible refine vc_condF ?hx ?_); (case hx => exact rfl))
    | (show retD _ _ _ _ _ _; conv => whnf)
    | ((refine ⟨?hx, trivial⟩); (case hx => (cases hF; exact rfl)))
    | ((refine ⟨?hx, ?_⟩); (case hx => decide); conv => whnf)
    | with_reducible refine k_seq ?_
    | (have hF : (none : Option _) = some _ := hF; cases hF))
end
end Go.Vc
namespace Go.Vc
open Go.Proofs
set_option linter.unusedVariables false
set_option linter.unnecessarySimpa false
set_option linter.unusedSimpArgs false
section
variable {c : Ctx} {p nid : Nat} {a b : Code} {st : St} {K : Ex → St → Prop}
/- f27: tusche/repeat.Plain -/
def f27_c19 (a0 : ByteArray) : Option (ByteArray × Int) :=
 some (a0, (0 : Int))
def Lf27_c19 (a0 : ByteArray) : Lp (Unit) Unit (ByteArray × Int) := lp0 ⟨[0], [], [], []⟩ (fun _ => [.dat (strN a0)]) (fun _ => []) (fun _ => f27_c19 a0)
theorem Ef27_c19 {a0} : (Lf27_c19 a0).E () = f27_c19 a0 := rfl
def f27_c18 (a0 : ByteArray) (x2 : List Int) (v25 : Int) (r8 : Int → Option (ByteArray × Int)) : Option (ByteArray × Int) :=
 r8 (W (v25 + (1 : Int)))
def Lf27_c18 (a0 : ByteArray) (x2 : List Int) (v25 : Int) (r8 : Int → Option (ByteArray × Int)) : Lp (Unit) Unit (ByteArray × Int) := lp0 ⟨[0, 5, 24, 25], [], [], []⟩ (fun _ => [.dat (strN a0), .dat (sl_iN x2), .dat (iN (W ((1 : Int) * 2 ^ (min (Int.toNat (ByteArray.size a0 : Int)) 64)))), .dat (iN v25)]) (fun _ => []) (fun _ => f27_c18 a0 x2 v25 r8)
theorem Ef27_c18 {a0 x2 v25 r8} : (Lf27_c18 a0 x2 v25 r8).E () = f27_c18 a0 x2 v25 r8 := rfl
def f27_c16 (a0 : ByteArray) (N : Nat) (x2 : List Int) (v25 : Int) (k1 : Option (ByteArray × Int)) (out7 : List Int) : Option (ByteArray × Int) :=
 (strOf out7).bind fun x4 =>
 (f47 N x4).bind fun x5 =>
 (f55 N x5 x2).bind fun x6 =>
 bif x6 then ((strOf out7).bind fun x7 =>
 some (x7, (0 : Int)))
 else k1
def Lf27_c16 (a0 : ByteArray) (N : Nat) (x2 : List Int) (v25 : Int) (k1 : Option (ByteArray × Int)) : Lp ((List Int)) (Nat) (ByteArray × Int) := ⟨⟨[0, 5, 7, 24, 25], [90007], [(.slot 7, 90007, 5, 1)], []⟩, fun out7 => [.dat (strN a0), .dat (sl_iN x2), .rs 90007 (List.length out7), .dat (iN (W ((1 : Int) * 2 ^ (min (Int.toNat (ByteArray.size a0 : Int)) 64)))), .dat (iN v25)], fun out7 => [.row 5 1 (List.map u8N out7)], fun out7 => f27_c16 a0 N x2 v25 k1 out7, fun _ m0 => [.dat (strN a0), .dat (sl_iN x2), .rs 90007 m0, .dat (iN (W ((1 : Int) * 2 ^ (min (Int.toNat (ByteArray.size a0 : Int)) 64)))), .dat (iN v25)], fun out7 _ => [.row 5 1 (List.map u8N out7)], fun out7 => List.length out7, fun _ => rfl, fun _ => rfl⟩
theorem Ef27_c16 {a0 N x2 v25 k1 out7} : (Lf27_c16 a0 N x2 v25 k1).E out7 = f27_c16 a0 N x2 v25 k1 out7 := rfl
def f27_12b (r12 : (List Int) → Int → Option (ByteArray × Int)) (a0 : ByteArray) (x2 : List Int) (v25 : Int) (x3 : List Int) (k2 : (List Int) → Option (ByteArray × Int)) (out7 : List Int) (v33 : Int) : Option (ByteArray × Int) :=
 bif decide (v33 < (List.length x3 : Int)) then ((chk (decide (0 ≤ v33))).bind fun _ =>
 (ix out7 (W ((W ((List.length out7 : Int) - (1 : Int))) - v33))).bind fun x8 =>
 (setx out7 (W ((W ((List.length out7 : Int) - (1 : Int))) - v33)) (Wk .u8 (W ((97 : Int) + (bitsI .and .i64 (Int.fdiv v25 (2 ^ (min (Int.toNat v33) 64))) (1 : Int)))))).bind fun x9 =>
 r12 x9 (W (v33 + (1 : Int))))
 else (k2 out7)
def f27_12 (a0 : ByteArray) (x2 : List Int) (v25 : Int) (x3 : List Int) (k2 : (List Int) → Option (ByteArray × Int)) : Nat → (List Int) → Int → Option (ByteArray × Int)
  | 0, _, _ => none
  | n + 1, out7, v33 => f27_12b (f27_12 a0 x2 v25 x3 k2 n) a0 x2 v25 x3 k2 out7 v33
def Lf27_12 (a0 : ByteArray) (x2 : List Int) (v25 : Int) (x3 : List Int) (k2 : (List Int) → Option (ByteArray × Int)) : Lp (Nat × (List Int) × Int) (Nat) (ByteArray × Int) := ⟨⟨[0, 5, 6, 7, 24, 25, 32, 33], [90007], [(.slot 7, 90007, 5, 1)], []⟩, fun (_, out7, v33) => [.dat (strN a0), .dat (sl_iN x2), .dat (iN v25), .rs 90007 (List.length out7), .dat (iN (W ((1 : Int) * 2 ^ (min (Int.toNat (ByteArray.size a0 : Int)) 64)))), .dat (iN v25), .dat (iN (List.length x3 : Int)), .dat (iN v33)], fun (_, out7, _) => [.row 5 1 (List.map u8N out7)], fun (n, out7, v33) => f27_12 a0 x2 v25 x3 k2 n out7 v33, fun (_, _, v33) m0 => [.dat (strN a0), .dat (sl_iN x2), .dat (iN v25), .rs 90007 m0, .dat (iN (W ((1 : Int) * 2 ^ (min (Int.toNat (ByteArray.size a0 : Int)) 64)))), .dat (iN v25), .dat (iN (List.length x3 : Int)), .dat (iN v33)], fun (_, out7, _) _ => [.row 5 1 (List.map u8N out7)], fun (_, out7, _) => List.length out7, fun _ => rfl, fun _ => rfl⟩
theorem Ef27_12 {a0 x2 v25 x3 k2 n out7 v33} : (Lf27_12 a0 x2 v25 x3 k2).E (n, out7, v33) = f27_12 a0 x2 v25 x3 k2 n out7 v33 := rfl
def f27_8b (r8 : Int → Option (ByteArray × Int)) (a0 : ByteArray) (N : Nat) (x2 : List Int) (k0 : Option (ByteArray × Int)) (v25 : Int) : Option (ByteArray × Int) :=
 bif decide (v25 < (W ((1 : Int) * 2 ^ (min (Int.toNat (ByteArray.size a0 : Int)) 64)))) then (joinK (f27_c18 a0 x2 v25 r8) fun k1 =>
 (mkS 1 (0 : Int) (ByteArray.size a0 : Int) (ByteArray.size a0 : Int)).bind fun x3 =>
 joinK (f27_c16 a0 N x2 v25 k1) fun k2 =>
 f27_12 a0 x2 v25 x3 k2 N x3 (0 : Int))
 else k0
def f27_8 (a0 : ByteArray) (N : Nat) (x2 : List Int) (k0 : Option (ByteArray × Int)) : Nat → Int → Option (ByteArray × Int)
  | 0, _ => none
  | n + 1, v25 => f27_8b (f27_8 a0 N x2 k0 n) a0 N x2 k0 v25
def Lf27_8 (a0 : ByteArray) (N : Nat) (x2 : List Int) (k0 : Option (ByteArray × Int)) : Lp (Nat × Int) Unit (ByteArray × Int) := lp0 ⟨[0, 5, 24, 25], [], [], []⟩ (fun (_, v25) => [.dat (strN a0), .dat (sl_iN x2), .dat (iN (W ((1 : Int) * 2 ^ (min (Int.toNat (ByteArray.size a0 : Int)) 64)))), .dat (iN v25)]) (fun (_, _) => []) (fun (n, v25) => f27_8 a0 N x2 k0 n v25)
theorem Ef27_8 {a0 N x2 k0 n v25} : (Lf27_8 a0 N x2 k0).E (n, v25) = f27_8 a0 N x2 k0 n v25 := rfl
def f27 (N : Nat) (a0 : ByteArray) : Option (ByteArray × Int) :=
 (f23 N a0).bind fun x1 =>
 bif decide (¬ x1 = (0 : Int)) then (some (emptyS, x1))
 else (bif decide ((14 : Int) < (ByteArray.size a0 : Int)) then (some (emptyS, (16 : Int)))
 else ((f47 N a0).bind fun x2 =>
 joinK (f27_c19 a0) fun k0 =>
 (chk (decide (0 ≤ (ByteArray.size a0 : Int)))).bind fun _ =>
 f27_8 a0 N x2 k0 N (0 : Int)))
def G27 (ds : List D) (d : D) : Prop := ∃ (N : Nat) (a0 : ByteArray) (r : ByteArray × Int), ds = [strN a0] ∧ f27 N a0 = some r ∧ d = .tup [strN r.1, iN r.2]
theorem G27.lend {N : Nat} {a0 : ByteArray} {ρ : Type} {A : (ByteArray × Int) → Option ρ} {q : ρ} {ds : List D} {K : D → Prop} (hd : ds = [strN a0]) (h : ∀ r, A r = some q → K (.tup [strN r.1, iN r.2])) (hF : (f27 N a0).bind A = some q) : ∃ d, (G27 ds d ∧ d.flatB = true) ∧ K d := by
  obtain ⟨r, hr, hA⟩ := bind_some hF
  exact ⟨_, ⟨⟨N, a0, r, hd, hr, rfl⟩, rfl⟩, h r hA⟩
theorem G27.step {N : Nat} {a0 : ByteArray} {ρ : Type} {A : (ByteArray × Int) → Option ρ} {q : ρ} {ds : List D} {K : D → Prop} (hd : ds = [strN a0]) (h : ∀ r, A r = some q → K (.tup [strN r.1, iN r.2])) (hF : (f27 N a0).bind A = some q) : ∃ d, G27 ds d ∧ K d := by
  obtain ⟨r, hr, hA⟩ := bind_some hF
  exact ⟨_, ⟨N, a0, r, hd, hr, rfl⟩, h r hA⟩
set_option maxRecDepth 20000 in
set_option maxHeartbeats 4000000 in
theorem P27 : PureOK Try.prog 27 G27 := by
  refine pure_of_vc (c := mkCtx tyTree [(48, false, inlPg (mkCtx tyTree []) Try.f48), (55, true, lendPg [[1], [1]] G55), (47, true, boxPg 68 G47), (23, true, lendPg [[0]] G23)]) rfl tyOK (ctx_eff (callable Try.func48 rfl rfl) (CallOK.inl rfl tyOK (ctx_nil) Try.func48 (by kernel_rfl)) (ctx_lend (callable Try.func55 rfl rfl) P55 (ctx_box (callable Try.func47 rfl rfl) P47 (ctx_lend (callable Try.func23 rfl rfl) P23 (ctx_nil))))) [[0], [0]] 1 Try.func27 rfl rfl (by decide) (by kernel_rfl) ?_
  rintro ds d ⟨N, a0, r, rfl, hF, rfl⟩ hok
  clear hok
  refine ⟨rfl, ?_⟩
  show vc _ _ _ _ ⟨[(0, .dat (strN a0))], []⟩ _
  unfold f27 at hF
  repeat' (first
    | ((with_reducible first | refine q0 _ _ ?_ | refine q1 _ _ _ _ ?_ | refine q2 _ _ _ ?_); clear Q q0 q1 q2)
    | ((with_reducible first | refine seq_op ?hx (fun Q q0 q1 q2 => ?_) | refine seq_op0 ?hx (fun Q q0 q1 q2 => ?_)); (case hx => exact rfl); conv => whnf)
    | ((with_reducible refine cond_id ?_); (first | ((refine condKT rfl ?hy ?_); (case hy => first | assumption | exact notT (by assumption) | exact rfl)) | ((refine condKF rfl ?hy ?_); (case hy => first | assumption | exact notF (by assumption) | exact rfl)) | (revert hF; (with_reducible refine condF ?hx ?_ ?_); (case hx => exact rfl); all_goals (intro hc hF))))
    | ((with_reducible refine seq_nil ?_); (first | ((with_reducible refine hR _ ?_); clear R hR) | ((with_reducible refine hL _ ?_); clear L hL)))
    | ((with_reducible first | refine int_step ?_ | refine len_step ?_ | refine idx2 (by assumption) ?_ | refine idx3 (by assumption) ?_); conv => whnf)
    | (with_reducible first | refine vc_block ?_ | refine vc_skip ?_ | refine vc_ret ?_ | refine vc_exit ?_ | refine vc_region (fun R hR => ?_) | refine k_seq_ret ?_ | refine k_seq_exit ?_ | refine k_blk ?_ | refine k_blk_ret ?_ | refine k_blk_here ?_ | refine k_loop_ret ?_ | refine k_loop_exit ?_)
    | ((with_reducible refine vc_seqN [19, 18, 16] ?hx ?_); (case hx => exact rfl))
    | (revert hF; (refine Lp.cut1 Lf27_c19 f27_c19 19 rfl rfl ?_ ?_); (intro hF); rotate_left; (rintro _ hF; dsimp only [Lf27_c19] at hF; unfold f27_c19 at hF); rotate_right)
    | exact Lp.head Ef27_c19 hF () ⟨_, rfl, rfl, rfl, rfl⟩ rfl
    | (revert hF; (refine Lp.cut4 Lf27_c18 f27_c18 18 rfl rfl ?_ ?_); (intro hF); rotate_left; (rintro _ hF; dsimp only [Lf27_c18] at hF; unfold f27_c18 at hF); rotate_right)
    | exact Lp.head Ef27_c18 hF () ⟨_, rfl, rfl, rfl, rfl⟩ rfl
    | (revert hF; (refine Lp.cut5 Lf27_c16 f27_c16 16 rfl rfl ?_ ?_); (intro hF); rotate_left; (rintro out7 hF; dsimp only [Lf27_c16] at hF; unfold f27_c16 at hF); rotate_right)
    | exact Lp.head Ef27_c16 hF _ ⟨_, rfl, rfl, rfl, rfl⟩ (by first | exact rfl | ((try dsimp only [Lf27_c16]); first | assumption | omega | (simp only [List.length_set]; done)))
    | (revert hF; (refine Lp.loop Ef27_12 _ rfl ⟨_, rfl, rfl, rfl, rfl⟩ (by first | exact rfl | ((try dsimp only [Lf27_12]); first | assumption | omega | (simp only [List.length_set]; done))) (fun _ => rfl) ?_); rintro n ⟨out7, v33⟩ hF; dsimp only [Lf27_12, f27_12] at hF; unfold f27_12b at hF)
    | exact Lp.back Ef27_12 hF _ ⟨_, rfl, rfl, rfl, rfl⟩ (by first | exact rfl | ((try dsimp only [Lf27_12]); first | assumption | omega | (simp only [List.length_set]; done)))
    | (revert hF; (refine Lp.loop Ef27_8 () rfl ⟨_, rfl, rfl, rfl, rfl⟩ rfl (fun _ => rfl) ?_); rintro n v25 hF; dsimp only [Lf27_8, f27_8] at hF; unfold f27_8b at hF)
    | exact Lp.back Ef27_8 hF () ⟨_, rfl, rfl, rfl, rfl⟩ rfl
    | (revert hF; (with_reducible refine G23.lend ?hx ?_); (case hx => exact rfl); intro v hF; conv => whnf)
    | (revert hF; (with_reducible refine G47.step ?hx ?_); (case hx => exact rfl); intro v hF; conv => whnf)
    | (revert hF; (with_reducible refine G55.lend ?hx ?_); (case hx => exact rfl); intro v hF; conv => whnf)
    | (revert hF; (refine mkS_row (d := u8N) ?hz ?_); (case hz => exact rfl); intro x hF; conv => whnf)
    | (revert hF; (first | refine strOf_step (fun _ h => h) ?_ | refine strOf_step2 ?_); intro x hF; conv => whnf)
    | ((with_reducible first | refine k_blk_out ?hx ?_ | refine vc_condT ?hx ?_); (case hx => exact rfl))
    | (revert hF; (with_reducible refine idx1 ?hn ?_); (case hn => first | exact rfl | exact (List.length_map _) | assumption | omega | simp); intro x hx hF; conv => whnf)
    | ((refine row_all ?hn ?_); (case hn => first | exact rfl | (simp; done) | (simp; omega)); conv => whnf)
    | ((with_reducible refine le_step ?hn ?_); (case hn => first | exact rfl | assumption | omega); conv => whnf)
    | ((with_reducible have hG := setx_fact hF); clear hF; (refine setx_step hG ?hs (fun q hl hF => ?_)); (case hs => exact rfl); clear hG; conv => whnf)
    | ((refine ⟨?hx, ?_⟩); (case hx => exact ⟨rfl, Nat.le_of_ble_eq_true rfl, rfl⟩); conv => whnf)
    | ((with_reducible refine ex_step ?_); conv => whnf)
    | ((with_reducible have hG := chk_fact hF); clear hF; (refine ⟨?hx, ?_⟩); (case hx => (first | exact of_decide_eq_true hG.1 | exact hG.1)); have hF := hG.2; clear hG; conv => whnf)
    | ((with_reducible refine both_T ?hx ?_); (case hx => first | exact rfl | assumption | exact notT (by assumption)); conv => whnf)
    | ((with_reducible refine both_F ?hx ?_); (case hx => first | exact rfl | assumption | exact notF (by assumption)); conv => whnf)
    | (revert hF; (with_reducible refine ite_step ?_ ?_) <;> (intro hc hF; conv => whnf))
    | ((with_reducible refine vc_condF ?hx ?_); (case hx => exact rfl))
    | (show retD _ _ _ _ _ _; conv => whnf)
    | ((refine inl_step ?ha ?hb ?hc rfl ?_); (case ha => exact rfl); (case hb => omega); (case hc => exact Nat.le_of_ble_eq_true rfl))
    | (show Kinl _ _ _ _ _ _ _; conv => whnf)
    | ((with_reducible refine kinl_step ?ha ?hb ?_); (case ha => exact rfl); (case hb => exact rfl); conv => whnf)
    | ((refine ⟨?hx, trivial⟩); (case hx => (cases hF; exact rfl)))
    | ((refine ⟨?hx, ?_⟩); (case hx => decide); conv => whnf)
    | with_reducible refine k_seq ?_
    | (have hF : (none : Option _) = some _ := hF; cases hF))
end
end Go.Vc
namespace Go.Vc
open Go.Proofs
set_option linter.unusedVariables false
set_option linter.unnecessarySimpa false
set_option linter.unusedSimpArgs false
section
variable {c : Ctx} {p nid : Nat} {a b : Code} {st : St} {K : Ex → St → Prop}
/- f29: tusche/repeat.First -/
def f29_c10 (out5 : ByteArray) : Option (ByteArray × Int) :=
 some (out5, (0 : Int))
def Lf29_c10 : Lp (ByteArray) Unit (ByteArray × Int) := lp0 ⟨[5], [], [], []⟩ (fun out5 => [.dat (strN out5)]) (fun _ => []) (fun out5 => f29_c10 out5)
theorem Ef29_c10 {out5} : (Lf29_c10).E out5 = f29_c10 out5 := rfl
def f29_6b (r6 : ByteArray → Int → Option (ByteArray × Int)) (a0 : ByteArray) (k0 : ByteArray → Option (ByteArray × Int)) (out5 : ByteArray) (v15 : Int) : Option (ByteArray × Int) :=
 bif decide (v15 < (ByteArray.size a0 : Int)) then ((subS a0 v15 (ByteArray.size a0 : Int)).bind fun x2 =>
 (subS a0 0 v15).bind fun x3 =>
 (addS x2 x3).bind fun x4 =>
 (some (minS out5 x4)).bind fun x5 =>
 r6 x5 (W (v15 + (1 : Int))))
 else (k0 out5)
def f29_6 (a0 : ByteArray) (k0 : ByteArray → Option (ByteArray × Int)) : Nat → ByteArray → Int → Option (ByteArray × Int)
  | 0, _, _ => none
  | n + 1, out5, v15 => f29_6b (f29_6 a0 k0 n) a0 k0 out5 v15
def Lf29_6 (a0 : ByteArray) (k0 : ByteArray → Option (ByteArray × Int)) : Lp (Nat × ByteArray × Int) Unit (ByteArray × Int) := lp0 ⟨[0, 5, 14, 15], [], [], []⟩ (fun (_, out5, v15) => [.dat (strN a0), .dat (strN out5), .dat (iN (ByteArray.size a0 : Int)), .dat (iN v15)]) (fun (_, _, _) => []) (fun (n, out5, v15) => f29_6 a0 k0 n out5 v15)
theorem Ef29_6 {a0 k0 n out5 v15} : (Lf29_6 a0 k0).E (n, out5, v15) = f29_6 a0 k0 n out5 v15 := rfl
def f29 (N : Nat) (a0 : ByteArray) : Option (ByteArray × Int) :=
 (f23 N a0).bind fun x1 =>
 bif decide (¬ x1 = (0 : Int)) then (some (emptyS, x1))
 else (joinK f29_c10 fun k0 =>
 f29_6 a0 k0 N a0 (0 : Int))
def G29 (ds : List D) (d : D) : Prop := ∃ (N : Nat) (a0 : ByteArray) (r : ByteArray × Int), ds = [strN a0] ∧ f29 N a0 = some r ∧ d = .tup [strN r.1, iN r.2]
theorem G29.lend {N : Nat} {a0 : ByteArray} {ρ : Type} {A : (ByteArray × Int) → Option ρ} {q : ρ} {ds : List D} {K : D → Prop} (hd : ds = [strN a0]) (h : ∀ r, A r = some q → K (.tup [strN r.1, iN r.2])) (hF : (f29 N a0).bind A = some q) : ∃ d, (G29 ds d ∧ d.flatB = true) ∧ K d := by
  obtain ⟨r, hr, hA⟩ := bind_some hF
  exact ⟨_, ⟨⟨N, a0, r, hd, hr, rfl⟩, rfl⟩, h r hA⟩
theorem G29.step {N : Nat} {a0 : ByteArray} {ρ : Type} {A : (ByteArray × Int) → Option ρ} {q : ρ} {ds : List D} {K : D → Prop} (hd : ds = [strN a0]) (h : ∀ r, A r = some q → K (.tup [strN r.1, iN r.2])) (hF : (f29 N a0).bind A = some q) : ∃ d, G29 ds d ∧ K d := by
  obtain ⟨r, hr, hA⟩ := bind_some hF
  exact ⟨_, ⟨N, a0, r, hd, hr, rfl⟩, h r hA⟩
set_option maxRecDepth 20000 in
set_option maxHeartbeats 4000000 in
theorem P29 : PureOK Try.prog 29 G29 := by
  refine pure_of_vc (c := mkCtx tyTree [(23, true, lendPg [[0]] G23)]) rfl tyOK (ctx_lend (callable Try.func23 rfl rfl) P23 (ctx_nil)) [[0], [0]] 1 Try.func29 rfl rfl (by decide) (by kernel_rfl) ?_
  rintro ds d ⟨N, a0, r, rfl, hF, rfl⟩ hok
  clear hok
  refine ⟨rfl, ?_⟩
  show vc _ _ _ _ ⟨[(0, .dat (strN a0))], []⟩ _
  unfold f29 at hF
  repeat' (first
    | ((with_reducible first | refine q0 _ _ ?_ | refine q1 _ _ _ _ ?_ | refine q2 _ _ _ ?_); clear Q q0 q1 q2)
    | ((with_reducible first | refine seq_op ?hx (fun Q q0 q1 q2 => ?_) | refine draw_op ?hx (fun Q q0 q1 q2 => ?_)); (case hx => exact rfl); conv => whnf)
    | ((with_reducible refine cond_id ?_); (first | ((refine condKT rfl ?hy ?_); (case hy => first | assumption | exact notT (by assumption) | exact rfl)) | ((refine condKF rfl ?hy ?_); (case hy => first | assumption | exact notF (by assumption) | exact rfl)) | (revert hF; (with_reducible refine condF ?hx ?_ ?_); (case hx => exact rfl); all_goals (intro hc hF))))
    | ((with_reducible refine seq_nil ?_); (first | ((with_reducible refine hR _ ?_); clear R hR) | ((with_reducible refine hL _ ?_); clear L hL)))
    | ((with_reducible refine draw_nil ?_); (with_reducible refine hR _ _ ?hx ?_); (case hx => kernel_rfl); (first | clear R hR | clear hR))
    | ((with_reducible first | refine int_step ?_); conv => whnf)
    | (with_reducible first | refine vc_block ?_ | refine vc_skip ?_ | refine vc_ret ?_ | refine vc_exit ?_ | refine vc_region (fun R hR => ?_) | refine k_seq_ret ?_ | refine k_seq_exit ?_ | refine k_blk ?_ | refine k_blk_ret ?_ | refine k_blk_here ?_ | refine k_loop_ret ?_ | refine k_loop_exit ?_)
    | ((with_reducible refine vc_seqN [10] ?hx ?_); (case hx => exact rfl))
    | ((with_reducible refine vc_draw ?hx (fun R hR => ?_)); (case hx => exact rfl))
    | (revert hF; (refine Lp.cut0 Lf29_c10 f29_c10 10 rfl rfl ?_ ?_); (intro hF); rotate_left; (rintro out5 hF; dsimp only [Lf29_c10] at hF; unfold f29_c10 at hF); rotate_right)
    | exact Lp.head Ef29_c10 hF () ⟨_, rfl, rfl, rfl, rfl⟩ rfl
    | (revert hF; (refine Lp.loop Ef29_6 () rfl ⟨_, rfl, rfl, rfl, rfl⟩ rfl (fun _ => rfl) ?_); rintro n ⟨out5, v15⟩ hF; dsimp only [Lf29_6, f29_6] at hF; unfold f29_6b at hF)
    | exact Lp.back Ef29_6 hF () ⟨_, rfl, rfl, rfl, rfl⟩ rfl
    | (revert hF; (with_reducible refine G23.lend ?hx ?_); (case hx => exact rfl); intro v hF; conv => whnf)
    | (revert hF; (refine subS_step ?_); intro x hF; conv => whnf)
    | (revert hF; (refine addS_step ?_); intro x hF; conv => whnf)
    | (revert hF; (refine some_step ?_); intro x hF; conv => whnf)
    | ((with_reducible first | refine k_blk_out ?hx ?_ | refine vc_condT ?hx ?_); (case hx => exact rfl))
    | ((refine row_all ?hn ?_); (case hn => first | exact rfl | (simp; done) | (simp; omega)); conv => whnf)
    | ((with_reducible refine le_step ?hn ?_); (case hn => first | exact rfl | assumption | omega); conv => whnf)
    | ((refine ⟨?hx, ?_⟩); (case hx => exact ⟨rfl, Nat.le_of_ble_eq_true rfl, rfl⟩); conv => whnf)
    | ((with_reducible refine ex_step ?_); conv => whnf)
    | ((with_reducible refine both_T ?hx ?_); (case hx => first | exact rfl | assumption | exact notT (by assumption)); conv => whnf)
    | ((with_reducible refine both_F ?hx ?_); (case hx => first | exact rfl | assumption | exact notF (by assumption)); conv => whnf)
    | (revert hF; (with_reducible refine ite_step ?_ ?_) <;> (intro hc hF; conv => whnf))
    | ((with_reducible refine vc_condF ?hx ?_); (case hx => exact rfl))
    | (show retD _ _ _ _ _ _; conv => whnf)
    | ((refine ⟨?hx, trivial⟩); (case hx => (cases hF; exact rfl)))
    | ((refine ⟨?hx, ?_⟩); (case hx => decide); conv => whnf)
    | with_reducible refine k_seq ?_
    | (have hF : (none : Option _) = some _ := hF; cases hF))
end
end Go.Vc
namespace Go.Vc
open Go.Proofs
set_option linter.unusedVariables false
set_option linter.unnecessarySimpa false
set_option linter.unusedSimpArgs false
section
variable {c : Ctx} {p nid : Nat} {a b : Code} {st : St} {K : Ex → St → Prop}
/- f56: strings.Contains (by a contract of its own) -/
def f56 (N : Nat) (a0 : ByteArray) (a1 : ByteArray) : Option (Bool) :=
 if a0.size ≤ 1000 then some (Lib.contains a0.data.toList a1.data.toList) else none
def G56 (ds : List D) (d : D) : Prop := ∃ (N : Nat) (a0 : ByteArray) (a1 : ByteArray) (r : Bool), ds = [strN a0, strN a1] ∧ f56 N a0 a1 = some r ∧ d = bN r
theorem G56.lend {N : Nat} {a0 : ByteArray} {a1 : ByteArray} {ρ : Type} {A : Bool → Option ρ} {q : ρ} {ds : List D} {K : D → Prop} (hd : ds = [strN a0, strN a1]) (h : ∀ r, A r = some q → K (bN r)) (hF : (f56 N a0 a1).bind A = some q) : ∃ d, (G56 ds d ∧ d.flatB = true) ∧ K d := by
  obtain ⟨r, hr, hA⟩ := bind_some hF
  exact ⟨_, ⟨⟨N, a0, a1, r, hd, hr, rfl⟩, rfl⟩, h r hA⟩
theorem G56.step {N : Nat} {a0 : ByteArray} {a1 : ByteArray} {ρ : Type} {A : Bool → Option ρ} {q : ρ} {ds : List D} {K : D → Prop} (hd : ds = [strN a0, strN a1]) (h : ∀ r, A r = some q → K (bN r)) (hF : (f56 N a0 a1).bind A = some q) : ∃ d, G56 ds d ∧ K d := by
  obtain ⟨r, hr, hA⟩ := bind_some hF
  exact ⟨_, ⟨N, a0, a1, r, hd, hr, rfl⟩, h r hA⟩
theorem P56 : PureOK Try.prog 56 G56 := pure_str2 (fun a b => .bool (Lib.contains a.data.toList b.data.toList)) (fun a b => a.size ≤ 1000) (by
  rintro ds d ⟨N, a0, a1, r, rfl, hF, rfl⟩
  simp only [f56] at hF
  split at hF
  · rename_i h
    cases hF
    exact ⟨a0, a1, rfl, rfl, h⟩
  · cases hF) fun a b w hg _ _ h => by
  obtain ⟨m, hm⟩ := glb_int hg Go.Proofs.Try.laysM144.s1_3
  exact ⟨trivial, Go.Proofs.Try.strings_Contains a b m w (by omega) hm⟩
end
end Go.Vc
namespace Go.Vc
open Go.Proofs
set_option linter.unusedVariables false
set_option linter.unnecessarySimpa false
set_option linter.unusedSimpArgs false
section
variable {c : Ctx} {p nid : Nat} {a b : Code} {st : St} {K : Ex → St → Prop}
/- f31: tusche/repeat.Same -/
def f31_c8 (a0 : ByteArray) (a1 : ByteArray) (N : Nat) : Option (Bool × Int) :=
 bif decide ((ByteArray.size a0 : Int) = (ByteArray.size a1 : Int)) then ((addS a0 a0).bind fun x1 =>
 (f56 N x1 a1).bind fun x2 =>
 some (x2, (0 : Int)))
 else (some (false, (0 : Int)))
def Lf31_c8 (a0 : ByteArray) (a1 : ByteArray) (N : Nat) : Lp (Unit) Unit (Bool × Int) := lp0 ⟨[0, 1], [], [], []⟩ (fun _ => [.dat (strN a0), .dat (strN a1)]) (fun _ => []) (fun _ => f31_c8 a0 a1 N)
theorem Ef31_c8 {a0 a1 N} : (Lf31_c8 a0 a1 N).E () = f31_c8 a0 a1 N := rfl
def f31_2b (r2 : Int → Option (Bool × Int)) (a0 : ByteArray) (a1 : ByteArray) (N : Nat) (k0 : Option (Bool × Int)) (v13 : Int) : Option (Bool × Int) :=
 bif decide (v13 < (List.length [a0, a1] : Int)) then ((ix [a0, a1] v13).bind fun x3 =>
 (f23 N x3).bind fun x4 =>
 bif decide (¬ x4 = (0 : Int)) then (some (false, x4))
 else (r2 (W (v13 + (1 : Int)))))
 else k0
def f31_2 (a0 : ByteArray) (a1 : ByteArray) (N : Nat) (k0 : Option (Bool × Int)) : Nat → Int → Option (Bool × Int)
  | 0, _ => none
  | n + 1, v13 => f31_2b (f31_2 a0 a1 N k0 n) a0 a1 N k0 v13
def Lf31_2 (a0 : ByteArray) (a1 : ByteArray) (N : Nat) (k0 : Option (Bool × Int)) : Lp (Nat × Int) (Nat) (Bool × Int) := ⟨⟨[0, 1, 11, 12, 13], [102], [], []⟩, fun (_, v13) => [.dat (strN a0), .dat (strN a1), .rs 102 (List.length [a0, a1]), .dat (iN (List.length [a0, a1] : Int)), .dat (iN v13)], fun (_, _) => [.row 9 1 (List.map strN [a0, a1])], fun (n, v13) => f31_2 a0 a1 N k0 n v13, fun (_, v13) m0 => [.dat (strN a0), .dat (strN a1), .rs 102 m0, .dat (iN (List.length [a0, a1] : Int)), .dat (iN v13)], fun (_, _) _ => [.row 9 1 (List.map strN [a0, a1])], fun (_, _) => List.length [a0, a1], fun _ => rfl, fun _ => rfl⟩
theorem Ef31_2 {a0 a1 N k0 n v13} : (Lf31_2 a0 a1 N k0).E (n, v13) = f31_2 a0 a1 N k0 n v13 := rfl
def f31 (N : Nat) (a0 : ByteArray) (a1 : ByteArray) : Option (Bool × Int) :=
 joinK (f31_c8 a0 a1 N) fun k0 =>
 f31_2 a0 a1 N k0 N (0 : Int)
def G31 (ds : List D) (d : D) : Prop := ∃ (N : Nat) (a0 : ByteArray) (a1 : ByteArray) (r : Bool × Int), ds = [strN a0, strN a1] ∧ f31 N a0 a1 = some r ∧ d = .tup [bN r.1, iN r.2]
theorem G31.lend {N : Nat} {a0 : ByteArray} {a1 : ByteArray} {ρ : Type} {A : (Bool × Int) → Option ρ} {q : ρ} {ds : List D} {K : D → Prop} (hd : ds = [strN a0, strN a1]) (h : ∀ r, A r = some q → K (.tup [bN r.1, iN r.2])) (hF : (f31 N a0 a1).bind A = some q) : ∃ d, (G31 ds d ∧ d.flatB = true) ∧ K d := by
  obtain ⟨r, hr, hA⟩ := bind_some hF
  exact ⟨_, ⟨⟨N, a0, a1, r, hd, hr, rfl⟩, rfl⟩, h r hA⟩
theorem G31.step {N : Nat} {a0 : ByteArray} {a1 : ByteArray} {ρ : Type} {A : (Bool × Int) → Option ρ} {q : ρ} {ds : List D} {K : D → Prop} (hd : ds = [strN a0, strN a1]) (h : ∀ r, A r = some q → K (.tup [bN r.1, iN r.2])) (hF : (f31 N a0 a1).bind A = some q) : ∃ d, G31 ds d ∧ K d := by
  obtain ⟨r, hr, hA⟩ := bind_some hF
  exact ⟨_, ⟨N, a0, a1, r, hd, hr, rfl⟩, h r hA⟩
set_option maxRecDepth 20000 in
set_option maxHeartbeats 4000000 in
theorem P31 : PureOK Try.prog 31 G31 := by
  refine pure_of_vc (c := mkCtx tyTree [(56, true, lendPg [[0], [0]] G56), (23, true, lendPg [[0]] G23)]) rfl tyOK (ctx_lend (callable Try.func56 rfl rfl) P56 (ctx_lend (callable Try.func23 rfl rfl) P23 (ctx_nil))) [[0], [0]] 2 Try.func31 rfl rfl (by decide) (by kernel_rfl) ?_
  rintro ds d ⟨N, a0, a1, r, rfl, hF, rfl⟩ hok
  clear hok
  refine ⟨rfl, ?_⟩
  show vc _ _ _ _ ⟨[(0, .dat (strN a0)), (1, .dat (strN a1))], []⟩ _
  unfold f31 at hF
  repeat' (first
    | ((with_reducible first | refine q0 _ _ ?_ | refine q1 _ _ _ _ ?_ | refine q2 _ _ _ ?_); clear Q q0 q1 q2)
    | ((with_reducible first | refine seq_op ?hx (fun Q q0 q1 q2 => ?_)); (case hx => exact rfl); conv => whnf)
    | ((with_reducible first | refine seq_off ?hx ?_ | refine seq_off0 ?hx ?_ | refine k_blk_out ?hx ?_ | refine vc_condT ?hx ?_); (case hx => exact rfl))
    | ((with_reducible refine seq_id ?_); (first | ((first | refine seq_opK rfl ?hy (fun Q q0 q1 q2 => ?_) | refine seq_opK0 rfl ?hy (fun Q q0 q1 q2 => ?_)); (case hy => first | assumption | exact notT (by assumption) | exact rfl); conv => whnf) | ((first | refine seq_offK rfl ?hy ?_ | refine seq_offK0 rfl ?hy ?_); (case hy => first | assumption | exact notF (by assumption) | exact rfl)) | (revert hF; (with_reducible first | refine seq_opF ?hx ?_ ?_ | refine seq_opF0 ?hx ?_ ?_); (case hx => exact rfl); (intro hc hF Q q0 q1 q2; conv => whnf); rotate_left; (intro hc hF); rotate_right) | (revert hF; (with_reducible first | refine seq_opN ?hx ?_ ?_ | refine seq_opN0 ?hx ?_ ?_); (case hx => exact rfl); (intro hc hF); rotate_left; (intro hc hF Q q0 q1 q2; conv => whnf); rotate_right)))
    | ((with_reducible refine cond_id ?_); (first | ((refine condKT rfl ?hy ?_); (case hy => first | assumption | exact notT (by assumption) | exact rfl)) | ((refine condKF rfl ?hy ?_); (case hy => first | assumption | exact notF (by assumption) | exact rfl)) | (revert hF; (with_reducible refine condF ?hx ?_ ?_); (case hx => exact rfl); all_goals (intro hc hF))))
    | ((with_reducible refine seq_nil ?_); (first | ((with_reducible refine hR _ ?_); clear R hR) | ((with_reducible refine hL _ ?_); clear L hL)))
    | ((with_reducible first | refine int_step ?_ | refine len_step ?_ | refine idx2 (by assumption) ?_ | refine idx3 (by assumption) ?_); conv => whnf)
    | (with_reducible first | refine vc_block ?_ | refine vc_skip ?_ | refine vc_ret ?_ | refine vc_exit ?_ | refine vc_region (fun R hR => ?_) | refine k_seq_ret ?_ | refine k_seq_exit ?_ | refine k_blk ?_ | refine k_blk_ret ?_ | refine k_blk_here ?_ | refine k_loop_ret ?_ | refine k_loop_exit ?_)
    | ((with_reducible refine vc_seqN [8] ?hx ?_); (case hx => exact rfl))
    | (revert hF; (refine Lp.cut3 Lf31_c8 f31_c8 8 rfl rfl ?_ ?_); (intro hF); rotate_left; (rintro _ hF; dsimp only [Lf31_c8] at hF; unfold f31_c8 at hF); rotate_right)
    | exact Lp.head Ef31_c8 hF () ⟨_, rfl, rfl, rfl, rfl⟩ rfl
    | (revert hF; (refine Lp.loop Ef31_2 _ rfl ⟨_, rfl, rfl, rfl, rfl⟩ (by first | exact rfl | ((try dsimp only [Lf31_2]); first | assumption | omega | (simp only [List.length_set]; done))) (fun _ => rfl) ?_); rintro n v13 hF; dsimp only [Lf31_2, f31_2] at hF; unfold f31_2b at hF)
    | exact Lp.back Ef31_2 hF _ ⟨_, rfl, rfl, rfl, rfl⟩ (by first | exact rfl | ((try dsimp only [Lf31_2]); first | assumption | omega | (simp only [List.length_set]; done)))
    | (revert hF; (with_reducible refine G23.lend ?hx ?_); (case hx => exact rfl); intro v hF; conv => whnf)
    | (revert hF; (with_reducible refine G56.lend ?hx ?_); (case hx => exact rfl); intro v hF; conv => whnf)
    | (revert hF; (refine addS_step ?_); intro x hF; conv => whnf)
    | (revert hF; (with_reducible refine idx1 ?hn ?_); (case hn => first | exact rfl | exact (List.length_map _) | assumption | omega | simp); intro x hx hF; conv => whnf)
    | ((refine row_all ?hn ?_); (case hn => first | exact rfl | (simp; done) | (simp; omega)); conv => whnf)
    | ((with_reducible refine le_step ?hn ?_); (case hn => first | exact rfl | assumption | omega); conv => whnf)
    | ((refine ⟨?hx, ?_⟩); (case hx => exact ⟨rfl, Nat.le_of_ble_eq_true rfl, rfl⟩); conv => whnf)
    | ((with_reducible refine ex_step ?_); conv => whnf)
    | ((with_reducible refine both_T ?hx ?_); (case hx => first | exact rfl | assumption | exact notT (by assumption)); conv => whnf)
    | ((with_reducible refine both_F ?hx ?_); (case hx => first | exact rfl | assumption | exact notF (by assumption)); conv => whnf)
    | (revert hF; (with_reducible refine ite_step ?_ ?_) <;> (intro hc hF; conv => whnf))
    | ((with_reducible refine vc_condF ?hx ?_); (case hx => exact rfl))
    | (show retD _ _ _ _ _ _; conv => whnf)
    | ((refine ⟨?hx, trivial⟩); (case hx => (cases hF; exact rfl)))
    | ((refine ⟨?hx, ?_⟩); (case hx => decide); conv => whnf)
    | with_reducible refine k_seq ?_
    | (have hF : (none : Option _) = some _ := hF; cases hF))
end
end Go.Vc
/-
  A map of integers in memory, entry by entry; a range over it whose rounds store at a key that is there.
-/
namespace Go.Proofs
open Go.RowKit Go.Shelf Go.ChangeMaps
/-- key, value, stamp -/
abbrev IE := Int × Int × Nat
def mkE (e : IE) : MapEntry := ⟨.int .i64 e.1, .int .i64 e.2.1, e.2.2⟩
def toA (es : List IE) : Array MapEntry := (es.map mkE).toArray
def MapI (W : World) (b : Nat) (es : List IE) (cl : Nat) : Prop := W.heap[b]? = some (.map (toA es) cl)
def okI (n : Int) : Prop := (Lit.int .i64 n).wf = true
section
variable {P : Program} {k : TypeId} {w : World}
theorem ie_key (hk : P.underlying k = some (.int .i64)) {es : List IE} (ho : ∀ e ∈ es, okI e.1) : ∀ x ∈ (toA es).toList, ∃ l, keyOf P k x.key = some l := by
  intro x hx
  simp only [toA, List.mem_map] at hx
  obtain ⟨e, he, rfl⟩ := hx
  exact ⟨_, Maps.keyOf_int_mk hk (ho e he)⟩
theorem find_new (hk : P.underlying k = some (.int .i64)) {es : List IE} (ho : ∀ e ∈ es, okI e.1) {d : Int} (hd : okI d) (hn : ∀ e ∈ es, e.1 ≠ d) : (Instr.findKey k (.int .i64 d) (toA es).toList).run P w = .ok none w := by
  rcases (Maps.int_keyed hk).find w (Maps.keyOf_int_mk hk hd) (toA es).toList (ie_key hk ho) with ⟨h, _⟩ | ⟨j, x, _, h2, h3⟩
  · exact h
  · exfalso
    have hx := List.mem_of_getElem? h2
    simp only [toA, List.mem_map] at hx
    obtain ⟨e, he, rfl⟩ := hx
    simp only [mkE, Value.int.injEq, true_and] at h3
    exact hn e he h3
theorem find_last (hk : P.underlying k = some (.int .i64)) {es : List IE} {d v : Int} {c : Nat} (ho : ∀ e ∈ es, okI e.1) (hd : okI d) (hn : ∀ e ∈ es, e.1 ≠ d) :
    (Instr.findKey k (.int .i64 d) (toA (es ++ [(d, v, c)])).toList).run P w = .ok (some (es.length, .int .i64 v)) w := by
  rcases (Maps.int_keyed hk).find w (Maps.keyOf_int_mk hk hd) (toA (es ++ [(d, v, c)])).toList (ie_key hk (by
    intro e he
    rcases List.mem_append.1 he with he | he
    · exact ho e he
    · simp at he; subst he; exact hd)) with ⟨_, h⟩ | ⟨j, x, h1, h2, h3⟩
  · exact absurd rfl (h (mkE (d, v, c)) (by simp [toA]))
  · simp only [toA] at h2
    rw [List.getElem?_map] at h2
    by_cases hj : j < es.length
    · rw [List.getElem?_append_left hj, List.getElem?_eq_getElem hj] at h2
      simp only [Option.map_some, Option.some.injEq] at h2
      subst h2
      simp only [mkE, Value.int.injEq, true_and] at h3
      exact absurd h3 (hn _ (List.getElem_mem hj))
    · have hjl : j = es.length := by
        have : j < (es ++ [(d, v, c)]).length := by
          cases hq : (es ++ [(d, v, c)])[j]? with
          | none => rw [hq] at h2; cases h2
          | some y => exact (List.getElem?_eq_some_iff.1 hq).1
        simp at this; omega
      subst hjl
      simp at h2
      subst h2
      exact h1
variable {t e : TypeId} {b : Nat} {es : List IE} {cl : Nat} {d v : Int}
theorem MapI.lt (h : MapI w b es cl) : b < w.heap.size := (Array.getElem?_eq_some_iff.1 h).1
theorem MapI.kept {w' : World} {row : Option Nat} (h : MapI w b es cl) (hg : w.grownBy w' row) (hne : some b ≠ row) : MapI w' b es cl := (hg.block b h.lt hne).trans h
theorem setBlock_grown (w : World) (b : Nat) (o : Obj) : w.grownBy (setBlock w b o) (some b) := ⟨rfl, rfl, rfl, by simp [setBlock], fun i _ hi => by
  simp only [setBlock]; exact Array.getElem?_setIfInBounds_ne (fun h => hi (by rw [h]))⟩
theorem setBlock_same (w : World) (b : Nat) (o : Obj) (hb : b < w.heap.size) : (setBlock w b o).heap[b]? = some o := by simp [setBlock, hb]
theorem run_look_last (ht : P.underlying t = some (.map k e)) (hk : P.underlying k = some (.int .i64)) {c : Nat} (h : MapI w b (es ++ [(d, v, c)]) cl) (ho : ∀ e ∈ es, okI e.1) (hd : okI d) (hn : ∀ e ∈ es, e.1 ≠ d) :
    (Instr.lookup t (.map (some b)) (.int .i64 d) false).run P w = .ok (.int .i64 v) w := by
  have hck := (Maps.int_keyed hk).check w (toA (es ++ [(d, v, c)])).isEmpty (Maps.keyOf_int_mk hk hd)
  have f1 := find_last (w := w) (v := v) (c := c) hk ho hd hn
  simp [Instr.lookup, run_underlying ht, getObj, Sem.run, show w.heap[b]? = _ from h, hck, f1]
theorem run_put_new (ht : P.underlying t = some (.map k e)) (hk : P.underlying k = some (.int .i64)) (h : MapI w b es cl) (ho : ∀ e ∈ es, okI e.1) (hd : okI d) (hn : ∀ e ∈ es, e.1 ≠ d) :
    (Instr.mapUpdate t (.map (some b)) (.int .i64 d) (.int .i64 v)).run P w = .ok () (setBlock w b (.map (toA (es ++ [(d, v, cl)])) (cl + 1))) := by
  have hck := (Maps.int_keyed hk).check w false (Maps.keyOf_int_mk hk hd)
  have f1 := find_new (w := w) hk ho hd hn
  have e1 : (toA es).push ⟨.int .i64 d, .int .i64 v, cl⟩ = toA (es ++ [(d, v, cl)]) := by simp [toA, mkE]
  simp [Instr.mapUpdate, run_underlying ht, getObj, setObj, Sem.run, show w.heap[b]? = _ from h, hck, f1, setBlock, e1]
theorem run_put_last (ht : P.underlying t = some (.map k e)) (hk : P.underlying k = some (.int .i64)) {c : Nat} {v' : Int} (h : MapI w b (es ++ [(d, v', c)]) cl) (ho : ∀ e ∈ es, okI e.1) (hd : okI d) (hn : ∀ e ∈ es, e.1 ≠ d) :
    (Instr.mapUpdate t (.map (some b)) (.int .i64 d) (.int .i64 v)).run P w = .ok () (setBlock w b (.map (toA (es ++ [(d, v, c)])) cl)) := by
  have hck := (Maps.int_keyed hk).check w false (Maps.keyOf_int_mk hk hd)
  have f1 := find_last (w := w) (v := v') (c := c) hk ho hd hn
  have hst := (Maps.int_keyed hk).stays w (Maps.keyOf_int_mk hk hd)
  have e0 : (toA (es ++ [(d, v', c)]))[es.length]? = some (mkE (d, v', c)) := by simp [toA]
  have e1 : (toA (es ++ [(d, v', c)])).modify es.length (fun en => { en with key := .int .i64 d, val := .int .i64 v }) = toA (es ++ [(d, v, c)]) := by
    apply Array.ext_getElem?
    intro i
    rw [Array.getElem?_modify]
    simp only [toA, List.getElem?_toArray, List.getElem?_map]
    by_cases hi : es.length = i
    · subst hi; simp [mkE]
    · rw [if_neg hi]
      by_cases hl : i < es.length
      · rw [List.getElem?_append_left hl, List.getElem?_append_left hl]
      · rw [List.getElem?_eq_none (by simp; omega), List.getElem?_eq_none (by simp; omega)]
  simp [Instr.mapUpdate, run_underlying ht, getObj, setObj, Sem.run, show w.heap[b]? = _ from h, hck, f1, setBlock, e0, mkE, hst, e1]
end
section
variable {F : Fence} {nF : Nat} {P : Program} {w : World} {ops : Array Oper} {rest : List Oper} {o : Oper} {a : Act} {Q : Exit → Act → World → Prop} {k e t : TypeId} {b r since c0 cl : Nat} {es : List IE} {seen : Array Nat} {d v : Int}
theorem wpListIn_put_new (hg : o.guard = none) (m x y : Operand) (hop : o.op = Op.mapUpdate t m x y) (ht : P.underlying t = some (.map k e)) (hk : P.underlying k = some (.int .i64)) (hm : a.eval m = .map (some b)) (hx : a.eval x = .int .i64 d) (hy : a.eval y = .int .i64 v)
    (h : MapI w b es cl) (ho : ∀ e ∈ es, okI e.1) (hd : okI d) (hn : ∀ e ∈ es, e.1 ≠ d) (hK : ∀ w', w.grownBy w' (some b) → w'.heap.size = w.heap.size → MapI w' b (es ++ [(d, v, cl)]) (cl + 1) → wpListIn F nF P ops Q rest (a.put o.dst undef) w') :
    wpListIn F nF P ops Q (o :: rest) a w := by
  refine wpListIn_plain hg fun K' hK' => ?_
  have hrun := run_put_new (v := v) ht hk h ho hd hn
  unfold Oper.wpIn
  refine ⟨by simp [Oper.about, hop], ?_⟩
  rw [Oper.semAt_plain F _ _ (by rw [hop]; intro c hc'; cases hc')]
  simp [execOp, hop, hm, hx, hy, hrun, Result.andThen]
  exact hK' _ _ (hK _ (setBlock_grown _ _ _) (by simp [setBlock]) (setBlock_same _ _ _ h.lt))
theorem wpListIn_put_last (hg : o.guard = none) (m x y : Operand) (hop : o.op = Op.mapUpdate t m x y) (ht : P.underlying t = some (.map k e)) (hk : P.underlying k = some (.int .i64)) (hm : a.eval m = .map (some b)) (hx : a.eval x = .int .i64 d) (hy : a.eval y = .int .i64 v)
    {v' : Int} {c : Nat} (h : MapI w b (es ++ [(d, v', c)]) cl) (ho : ∀ e ∈ es, okI e.1) (hd : okI d) (hn : ∀ e ∈ es, e.1 ≠ d) (hK : ∀ w', w.grownBy w' (some b) → w'.heap.size = w.heap.size → MapI w' b (es ++ [(d, v, c)]) cl → wpListIn F nF P ops Q rest (a.put o.dst undef) w') :
    wpListIn F nF P ops Q (o :: rest) a w := by
  refine wpListIn_plain hg fun K' hK' => ?_
  have hrun := run_put_last (v := v) ht hk h ho hd hn
  unfold Oper.wpIn
  refine ⟨by simp [Oper.about, hop], ?_⟩
  rw [Oper.semAt_plain F _ _ (by rw [hop]; intro c hc'; cases hc')]
  simp [execOp, hop, hm, hx, hy, hrun, Result.andThen]
  exact hK' _ _ (hK _ (setBlock_grown _ _ _) (by simp [setBlock]) (setBlock_same _ _ _ h.lt))
theorem wpListIn_look_last (hg : o.guard = none) (m x : Operand) (hop : o.op = Op.lookup t m x false) (ht : P.underlying t = some (.map k e)) (hk : P.underlying k = some (.int .i64)) (hm : a.eval m = .map (some b)) (hx : a.eval x = .int .i64 d)
    {c : Nat} (h : MapI w b (es ++ [(d, v, c)]) cl) (ho : ∀ e ∈ es, okI e.1) (hd : okI d) (hn : ∀ e ∈ es, e.1 ≠ d) (hK : wpListIn F nF P ops Q rest (a.put o.dst (.int .i64 v)) w) :
    wpListIn F nF P ops Q (o :: rest) a w := by
  refine wpListIn_plain hg fun K' hK' => ?_
  have hrun := run_look_last ht hk h ho hd hn
  unfold Oper.wpIn
  refine ⟨by simp [Oper.about, hop], ?_⟩
  rw [Oper.semAt_plain F _ _ (by rw [hop]; intro c hc'; cases hc')]
  simp [execOp, hop, hm, hx, hrun, Result.andThen]
  exact hK' _ _ hK
theorem wpListIn_range_I (hg : o.guard = none) (m : Operand) (hop : o.op = Op.range t m) (ht : P.underlying t = some (.map k e)) (hm : a.eval m = .map (some b)) (h : MapI w b es cl)
    (hK : ∀ w', w.grownBy w' none → w'.heap.size = w.heap.size + 1 → w'.heap[w.heap.size]? = some (.mapIter (some b) cl #[] cl) → MapI w' b es cl → wpListIn F nF P ops Q rest (a.put o.dst (.pointer (some ⟨w.heap.size, 0, none⟩))) w') :
    wpListIn F nF P ops Q (o :: rest) a w := by
  refine wpListIn_plain hg fun K' hK' => ?_
  have hrun := run_range_map (P := P) w t k e b (toA es) cl ht h
  unfold Oper.wpIn
  refine ⟨by simp [Oper.about, hop], ?_⟩
  rw [Oper.semAt_plain F _ _ (by rw [hop]; intro c hc'; cases hc')]
  simp [execOp, hop, hm, hrun, Result.andThen]
  exact hK' _ _ (hK _ (World.grownBy_alloc w _ none) (by simp) (World.alloc_heap_new w _) (h.kept (World.grownBy_alloc w _ none) (by simp)))
theorem wpListIn_next_I (hg : o.guard = none) (it : Operand) (hop : o.op = Op.next it false) (hit : a.eval it = .pointer (some ⟨r, 0, none⟩)) (hr : w.heap[r]? = some (.mapIter (some b) since seen c0)) (h : MapI w b es cl) (hold : ∀ e ∈ es, e.2.2 < since) (hsc : since ≤ c0)
    (hDone : (∀ e ∈ es, seen.contains e.2.2 = true) → wpListIn F nF P ops Q rest (a.put o.dst (.tuple #[.bool false])) w)
    (hMore : ∀ e ∈ es, seen.contains e.2.2 = false → ∀ w2, w.grownBy w2 (some r) → w2.heap.size = w.heap.size → w2.heap[r]? = some (.mapIter (some b) since (seen.push e.2.2) cl) → MapI w2 b es cl → wpListIn F nF P ops Q rest (a.put o.dst (.tuple #[.bool true, .int .i64 e.1, .int .i64 e.2.1])) w2) :
    wpListIn F nF P ops Q (o :: rest) a w := by
  have hrb : r ≠ b := fun he => by rw [he, show w.heap[b]? = _ from h] at hr; cases hr
  have hlt : r < w.heap.size := (Array.getElem?_eq_some_iff.1 hr).1
  have hold' : ∀ x ∈ (toA es).toList, x.born < since := by
    intro x hx
    simp only [toA, List.mem_map] at hx
    obtain ⟨e, he, rfl⟩ := hx
    exact hold e he
  refine wpListIn_plain hg fun K' hK' => ?_
  unfold Oper.wpIn
  refine ⟨by simp [Oper.about, hop], ?_⟩
  rw [Oper.semAt_plain F _ _ (by rw [hop]; intro c hc'; cases hc')]
  rcases run_next_at (P := P) w o.type r b since c0 seen (toA es) cl hr h hold' hsc with ⟨h0, hrun⟩ | ⟨x, hx, w1, hw1, hrun⟩
  · simp [execOp, hop, hit, hrun, Result.andThen]
    refine hK' _ _ (hDone fun e he => ?_)
    have hz : leftOf (toA es) seen = #[] := Array.eq_empty_of_size_eq_zero h0
    unfold leftOf at hz
    rw [Array.filter_eq_empty_iff] at hz
    have := hz (mkE e) (by simp only [toA, List.mem_toArray]; exact List.mem_map.2 ⟨e, he, rfl⟩)
    simpa [mkE] using this
  · simp [execOp, hop, hit, hrun, Result.andThen]
    have hx' : x ∈ leftOf (toA es) seen := by simpa using hx
    unfold leftOf at hx'
    rw [Array.mem_filter] at hx'
    obtain ⟨hx1, hx2⟩ := hx'
    simp only [toA, List.mem_toArray, List.mem_map] at hx1
    obtain ⟨e, he, rfl⟩ := hx1
    have hg1 : w.grownBy w1 none := by rcases hw1 with rfl | rfl; exact ⟨rfl, rfl, rfl, Nat.le_refl _, fun _ _ _ => rfl⟩; exact ⟨rfl, rfl, rfl, Nat.le_refl _, fun _ _ _ => rfl⟩
    have hs1 : w1.heap.size = w.heap.size := by rcases hw1 with rfl | rfl <;> rfl
    have hh1 : w1.heap = w.heap := by rcases hw1 with rfl | rfl <;> rfl
    refine hK' _ _ (hMore e he (by simpa [mkE] using hx2) _ ⟨?_, ?_, ?_, ?_, ?_⟩ (by simp [setBlock, hs1]) (setBlock_same _ _ _ (by omega)) ?_)
    · rcases hw1 with rfl | rfl <;> rfl
    · rcases hw1 with rfl | rfl <;> rfl
    · rcases hw1 with rfl | rfl <;> rfl
    · simp [setBlock, hs1]
    · intro i hi hne
      simp only [setBlock, hh1]
      exact Array.getElem?_setIfInBounds_ne (fun h => hne (by rw [h]))
    · show (setBlock w1 r _).heap[b]? = _
      simp only [setBlock, hh1]
      rw [Array.getElem?_setIfInBounds_ne hrb]
      exact h
theorem run_entry_IE {x : IE} (hr : w.heap[r]? = some (.mapIter (some b) since (seen.push x.2.2) cl)) (h : MapI w b es cl) (hx : x ∈ es) (hn : (es.map (·.2.2)).Nodup) :
    (Instr.entry (.pointer (some ⟨r, 0, none⟩))).run P w = .ok (.tuple #[.int .i64 x.1, .int .i64 x.2.1]) w :=
  run_entry_at (P := P) w r b since seen (toA es) cl (mkE x) hr h (by simp only [toA]; exact List.mem_map.2 ⟨x, hx, rfl⟩) (by simpa [toA, mkE, Function.comp_def] using hn)
end
/-- what is still to come -/
def leftN (bs : List Nat) (seen : Array Nat) : Nat := (bs.filter fun n => !seen.contains n).length
theorem filt_le {α : Type} {p q : α → Bool} (h : ∀ x, q x = true → p x = true) : ∀ l : List α, (l.filter q).length ≤ (l.filter p).length
  | [] => by simp
  | x :: l => by
    have ih := filt_le h l
    rw [List.filter_cons, List.filter_cons]
    cases hq : q x with
    | true => rw [if_pos rfl, if_pos (h x hq)]; simpa using ih
    | false =>
      rw [if_neg (by simp)]
      split
      · simp; omega
      · exact ih
theorem filt_lt {α : Type} {p q : α → Bool} (h : ∀ x, q x = true → p x = true) {n : α} (hp : p n = true) (hq : q n = false) : ∀ l : List α, n ∈ l → (l.filter q).length < (l.filter p).length
  | [], hn => by cases hn
  | x :: l, hn => by
    rw [List.filter_cons, List.filter_cons]
    rcases List.mem_cons.1 hn with rfl | hn
    · have := filt_le h l
      rw [if_neg (by simp [hq]), if_pos hp]
      simp; omega
    · have ih := filt_lt h hp hq l hn
      cases hq' : q x with
      | true => rw [if_pos rfl, if_pos (h x hq')]; simpa using ih
      | false =>
        rw [if_neg (by simp)]
        split
        · simp; omega
        · exact ih
theorem leftN_push {bs : List Nat} {seen : Array Nat} {n : Nat} (h : n ∈ bs) (hs : seen.contains n = false) : leftN bs (seen.push n) < leftN bs seen :=
  filt_lt (p := fun m => !seen.contains m) (q := fun m => !(seen.push n).contains m) (fun x hx => by simp at hx ⊢; exact hx.1) (by simpa using hs) (by simp) bs h
theorem rangeLeft_I {w : World} {b r since c0 cl : Nat} {es : List IE} {seen : Array Nat} (h : MapI w b es cl) (hr : w.heap[r]? = some (.mapIter (some b) since seen c0)) : w.rangeLeft b r = leftN (es.map (·.2.2)) seen := by
  unfold World.rangeLeft
  rw [show w.heap[b]? = _ from h, hr]
  simp only [leftOf, toA, leftN]
  rw [← Array.length_toList, Array.toList_filter, List.filter_map, List.filter_map, List.length_map, List.length_map]
  rfl
end Go.Proofs
/-
  Rings: a map that is written while it is ranged over (walked with the kit's words).
-/
namespace Go.Proofs
open Go.RowKit Go.Shelf Go.ChangeMaps
/-- the values of the keys that divide d -/
def sD (d : Int) : List (Int × Int) → Int
  | [] => 0
  | e :: l => (if d % e.1 = 0 then e.2 else 0) + sD d l
def rStep (pw : Int → Int) (n : Int) (st : List (Int × Int) × Int) (d : Nat) : List (Int × Int) × Int :=
  if n % (d : Int) = 0 then (st.1 ++ [((d : Int), IntKind.i64.wrap (pw d - sD d st.1))], IntKind.i64.wrap (st.2 + IntKind.i64.wrap ((IntKind.i64.wrap (pw d - sD d st.1)).tdiv d))) else st
/-- the map and the number of rings, below d -/
def rTo (pw : Int → Int) (n : Int) (d : Nat) : List (Int × Int) × Int := (List.range' 1 (d - 1)).foldl (rStep pw n) ([], 0)
theorem rTo_succ {pw : Int → Int} {n : Int} {d : Nat} (hd : 1 ≤ d) : rTo pw n (d + 1) = rStep pw n (rTo pw n d) d := by
  obtain ⟨j, rfl⟩ : ∃ j, d = j + 1 := ⟨d - 1, by omega⟩
  simp only [rTo, Nat.add_sub_cancel, List.range'_concat, List.foldl_append]
  simp [show 1 + j = j + 1 by omega]
theorem rTo_keys {pw : Int → Int} {n : Int} : ∀ {d : Nat}, 1 ≤ d → ∀ e ∈ (rTo pw n d).1, 1 ≤ e.1 ∧ e.1 < d := by
  intro d hd
  induction d with
  | zero => omega
  | succ d ih =>
    by_cases h0 : d = 0
    · subst h0; simp [rTo]
    · intro e he
      rw [rTo_succ (by omega)] at he
      unfold rStep at he
      split at he
      · rcases List.mem_append.1 he with he | he
        · have := ih (by omega) e he; omega
        · simp at he; subst he; simp; omega
      · have := ih (by omega) e he; omega
/-- .. of those entries that have come -/
def sS (d : Int) (seen : Array Nat) : List IE → Int
  | [] => 0
  | e :: l => (if seen.contains e.2.2 = true ∧ d % e.1 = 0 then e.2.1 else 0) + sS d seen l
theorem sS_off {d : Int} {seen : Array Nat} {m : Nat} : ∀ {l : List IE}, m ∉ l.map (·.2.2) → sS d (seen.push m) l = sS d seen l
  | [], _ => rfl
  | e :: l, h => by
    simp only [List.map_cons, List.mem_cons, not_or] at h
    have e1 : ((seen.push m).contains e.2.2 = true) = (seen.contains e.2.2 = true) := by simp [Ne.symm h.1]
    simp only [sS, sS_off h.2, e1]
theorem sS_push {d : Int} {seen : Array Nat} : ∀ {l : List IE}, (l.map (·.2.2)).Nodup → ∀ e ∈ l, seen.contains e.2.2 = false → sS d (seen.push e.2.2) l = sS d seen l + (if d % e.1 = 0 then e.2.1 else 0)
  | [], _, _, he, _ => by cases he
  | x :: l, hn, e, he, hs => by
    simp only [List.map_cons, List.nodup_cons] at hn
    rcases List.mem_cons.1 he with rfl | he
    · have e1 : (seen.push e.2.2).contains e.2.2 = true := by simp
      simp only [sS, sS_off hn.1, e1, hs]
      simp
      omega
    · have hne : x.2.2 ≠ e.2.2 := fun h => hn.1 (h ▸ List.mem_map.2 ⟨e, he, rfl⟩)
      have e1 : ((seen.push e.2.2).contains x.2.2 = true) = (seen.contains x.2.2 = true) := by simp [hne]
      simp only [sS, sS_push hn.2 e he hs, e1]
      omega
theorem sS_all {d : Int} {seen : Array Nat} : ∀ {l : List IE}, (∀ e ∈ l, seen.contains e.2.2 = true) → sS d seen l = sD d (l.map fun e => (e.1, e.2.1))
  | [], _ => rfl
  | e :: l, h => by
    have h1 := h e (by simp)
    have ih := sS_all (d := d) (l := l) fun x hx => h x (List.mem_cons_of_mem _ hx)
    simp only [sS, sD, List.map_cons, ih, h1, true_and]
theorem sS_none {d : Int} : ∀ {l : List IE}, sS d #[] l = 0
  | [] => rfl
  | e :: l => by simp [sS, sS_none (l := l)]
theorem wrap_sub (a b : Int) : IntKind.i64.wrap (IntKind.i64.wrap a - b) = IntKind.i64.wrap (a - b) := by
  simp [IntKind.wrap, IntKind.signed, IntKind.bits]
  omega
theorem i64L (n : Int) : IntKind.i64.wrap n = Go.RowKit.wrap64 n := IntWalk.i64_left n
theorem okI_small {n : Int} (h1 : 0 ≤ n) (h2 : n ≤ 1000) : okI n := by
  simp [okI, Lit.wf, IntKind.min, IntKind.max, IntKind.signed, IntKind.bits]
  omega
theorem Try.und75 : Try.prog.underlying 75 = some (.map 3 3) := by kernel_rfl
theorem Try.und3 : Try.prog.underlying 3 = some (.int .i64) := by kernel_rfl
set_option maxRecDepth 100000 in
set_option maxHeartbeats 2000000 in
theorem Try.rings_in (n kinds : Int) (pw : Int → Int) (b1 b2 : Bool) (hn : b1 = true → b2 = true → 1 ≤ n ∧ n ≤ 16) (w : World)
    (h1 : ∀ w1, Below w.heap.size w w1 → Calls Try.prog 52 #[.int .i64 1, .int .i64 n, .int .i64 16] w1 fun e w' => e = .returned (.bool b1) ∧ Below w1.heap.size w1 w')
    (h2 : ∀ w1, Below w.heap.size w w1 → Calls Try.prog 52 #[.int .i64 1, .int .i64 kinds, .int .i64 9] w1 fun e w' => e = .returned (.bool b2) ∧ Below w1.heap.size w1 w')
    (hp : b1 = true → b2 = true → ∀ d : Nat, 1 ≤ d → d ≤ n → ∀ w1, Below w.heap.size w w1 → Calls Try.prog 57 #[.int .i64 kinds, .int .i64 d] w1 fun e w' => e = .returned (.int .i64 (pw d)) ∧ Below w1.heap.size w1 w')
    (hpr : b1 = true → b2 = true → ∀ d : Nat, 1 ≤ d → d ≤ n → IntKind.i64.wrap (pw d) = pw d) (res : Value) (hres : res = if b1 = true ∧ b2 = true then .tuple #[.int .i64 (rTo pw n (n.toNat + 1)).2, .int .i64 0] else .tuple #[.int .i64 0, .int .i64 3]) :
    Calls Try.prog 33 #[.int .i64 n, .int .i64 kinds] w fun e w' => e = .returned res ∧ Below w.heap.size w w' := by
  refine (callsIn_wide (n := 3)).1 (callsIn_of_wp Try.func33 rfl trivial ?_ rfl)
  simp only [Try.ntmps33, List.size_toArray, List.length_cons, List.length_nil, Nat.reduceAdd, Nat.reduceSub, Array.replicate_succ, Array.replicate_zero, List.push_toArray, List.append_toArray, List.nil_append, List.cons_append]
  have hf52 : Fence.wide.fn 52 := trivial
  have hf57 : Fence.wide.fn 57 := trivial
  have hB0 := Below.refl w.heap.size w
  cases b1 with
  | false =>
    have hres : res = .tuple #[.int .i64 0, .int .i64 3] := by simpa using hres
    subst hres
    gi_wp2_with (gi_at_call 52; refine (callsIn_wide.2 (h1 _ hB0)).mono ?_; rintro e W0 ⟨rfl, hBW⟩)
    go_ret2
    exact ⟨rfl, hBW⟩
  | true =>
    cases b2 with
    | false =>
      have hres : res = .tuple #[.int .i64 0, .int .i64 3] := by simpa using hres
      subst hres
      gi_wp2_with (gi_at_call 52; first | (refine (callsIn_wide.2 (h2 _ hBW)).mono ?_; rintro e W1 ⟨rfl, hBW1⟩) | (refine (callsIn_wide.2 (h1 _ hB0)).mono ?_; rintro e W0 ⟨rfl, hBW⟩))
      go_ret2
      exact ⟨rfl, hBW.trans (hBW1.mono hBW.size)⟩
    | true =>
      obtain ⟨hn1, hn2⟩ := hn rfl rfl
      replace hp := hp rfl rfl
      replace hpr := hpr rfl rfl
      obtain ⟨m, rfl⟩ : ∃ m : Nat, n = m := ⟨n.toNat, by omega⟩
      have hres : res = .tuple #[.int .i64 (rTo pw m (m + 1)).2, .int .i64 0] := by simpa using hres
      have hmk : ∀ w : World, (Instr.makeMap 75 none).run Try.prog w = .ok (.map (some w.heap.size)) (w.alloc (.map #[] 0)) := fun w => by simp [Instr.makeMap]
      gi_wp2_with (gi_at_call 52; first | (refine (callsIn_wide.2 (h2 _ hBW)).mono ?_; rintro e W1 ⟨rfl, hBW1⟩) | (refine (callsIn_wide.2 (h1 _ hB0)).mono ?_; rintro e W0 ⟨rfl, hBW⟩))
      have hmb : w.heap.size ≤ W1.heap.size := by have := hBW.size; have := hBW1.size; omega
      have hB2 : Below w.heap.size w (W1.alloc (.map #[] 0)) := (hBW.trans (hBW1.mono hBW.size)).alloc hmb _
      have hm0 : MapI (W1.alloc (.map #[] 0)) W1.heap.size [] 0 := World.alloc_heap_new W1 _
      clear h1 h2 hmk hBW hBW1 hB0
      gi_loopw [7, 8] (fun p q wr => ∃ (d : Nat) (es : List IE) (cl : Nat), 1 ≤ d ∧ d ≤ m + 1 ∧ p = .int .i64 (rTo pw m d).2 ∧ q = .int .i64 d ∧ MapI wr W1.heap.size es cl ∧ Below w.heap.size w wr ∧ es.map (fun e => (e.1, e.2.1)) = (rTo pw m d).1 ∧ (es.map (·.2.2)).Nodup ∧ (∀ e ∈ es, e.2.2 < cl))
        (fun p q wr => m + 1 - (Lib.intOf q).toNat)
      case atStart => exact ⟨1, [], 0, by omega, by omega, by simp [rTo], rfl, hm0, hB2, by simp [rTo], by simp, by simp⟩
      case round =>
        obtain ⟨d, es, cl, hd1, hd2, rfl, rfl, hM, hBr, hes, hnd, hcl⟩ := hrel
        have hkeys : ∀ e ∈ es, 1 ≤ e.1 ∧ e.1 < d := fun e he => rTo_keys hd1 (e.1, e.2.1) (by rw [← hes]; exact List.mem_map.2 ⟨e, he, rfl⟩)
        have hok : ∀ e ∈ es, okI e.1 := fun e he => okI_small (by have := hkeys e he; omega) (by have := hkeys e he; omega)
        have hne : ∀ e ∈ es, e.1 ≠ d := fun e he => by have := hkeys e he; omega
        have hokd : okI d := okI_small (by omega) (by omega)
        have hd0 : (d : Int) ≠ 0 := by omega
        by_cases hdm : d ≤ m
        · by_cases hdv : (m : Int) % (d : Int) = 0
          · have hpd := hpr d hd1 (by omega)
            gi_wp2_with (first
              | (gi_at_call 57; refine (callsIn_wide.2 (hp d hd1 (by omega) _ hBr)).mono ?_; rintro e W2 ⟨rfl, hBW2⟩; have hM2 : MapI W2 W1.heap.size es cl := (hBW2.block _ hM.lt).trans hM)
              | (gi_at_mapUpdate; refine wpListIn_put_new rfl _ _ _ rfl Try.und75 Try.und3 rfl rfl rfl hM2 hok hokd hne ?_; intro W3 hg3 hs3 hM3)
              | (gi_at_range; refine wpListIn_range_I rfl _ rfl Try.und75 rfl hM3 ?_; intro W4 hg4 hs4 hr4 hM4)
              | gi_in)
            go_frame
            have hM4' : MapI W4 W1.heap.size (es ++ [((d : Int), IntKind.i64.wrap (pw d - sS d #[] es), cl)]) (cl + 1) := by rw [sS_none, Int.sub_zero, hpd]; exact hM4
            have hBW : w.heap.size ≤ W2.heap.size := by have := hBr.size; have := hBW2.size; omega
            have hB3 : Below w.heap.size w W4 := ((((hBr.trans (hBW2.mono hBr.size)).grown hg3 hBW (fun k e => by cases e; exact hmb))).grown hg4 (by omega) (fun k e => by cases e))
            have hnd' : ∀ x : Int, ((es ++ [((d : Int), x, cl)]).map (·.2.2)).Nodup := fun x => by
              simp only [List.map_append, List.map_cons, List.map_nil]
              rw [List.nodup_append]
              refine ⟨hnd, by simp, fun a ha b hb => ?_⟩
              obtain ⟨e, he, rfl⟩ := List.mem_map.1 ha
              simp at hb; subst hb
              have := hcl e he; omega
            have hcl' : ∀ x : Int, ∀ e ∈ es ++ [((d : Int), x, cl)], e.2.2 < cl + 1 := fun x e he => by
              rcases List.mem_append.1 he with he | he
              · have := hcl e he; omega
              · simp at he; subst he; simp
            have hoff : cl ∉ es.map (·.2.2) := fun h => by
              obtain ⟨e, he, h⟩ := List.mem_map.1 h
              have := hcl e he; omega
            clear hM hM2 hM3 hM4 hg3 hg4 hp
            generalize W3.heap.size = rb at hr4 hs4 hs3 ⊢
            have hrw : w.heap.size ≤ rb := by omega
            clear hs3 hs4
            gi_loopw [9] (fun _ wr2 => ∃ seen : Array Nat, MapI wr2 W1.heap.size (es ++ [((d : Int), IntKind.i64.wrap (pw d - sS d seen es), cl)]) (cl + 1) ∧ wr2.heap[rb]? = some (.mapIter (some W1.heap.size) (cl + 1) seen (cl + 1)) ∧ Below w.heap.size w wr2)
              (fun _ wr2 => wr2.rangeLeft W1.heap.size rb)
            case atStart => exact ⟨#[], hM4', hr4, hB3⟩
            case round =>
              obtain ⟨seen, hMi, hri, hBi⟩ := hrel
              have hrb : rb ≠ W1.heap.size := fun he => by rw [he, show wr.heap[W1.heap.size]? = _ from hMi] at hri; cases hri
              have hm1 := rangeLeft_I hMi hri
              gi_wp2_with (first
                | (gi_at_next; refine wpListIn_next_I rfl _ rfl rfl hri hMi (hcl' _) (Nat.le_refl _) ?_ ?_)
                | gi_in)
              · intro hall
                have hsum : sS d seen es = sD d (rTo pw m d).1 := by rw [← hes]; exact sS_all fun e he => by have := hall e.1 e.2.1 e.2.2 (.inl he); simpa using this
                gi_wp2_with (first
                  | (gi_at_lookup; refine wpListIn_look_last rfl _ _ rfl Try.und75 Try.und3 rfl rfl hMi hok hokd hne ?_)
                  | gi_in)
                have hst : rTo pw m (d + 1) = ((rTo pw m d).1 ++ [((d : Int), IntKind.i64.wrap (pw d - sS d seen es))], IntKind.i64.wrap ((rTo pw m d).2 + IntKind.i64.wrap ((IntKind.i64.wrap (pw d - sS d seen es)).tdiv d))) := by
                  rw [rTo_succ hd1, rStep, if_pos hdv, hsum]
                go_roundw
                case rel => exact ⟨d + 1, es ++ [((d : Int), IntKind.i64.wrap (pw d - sS d seen es), cl)], cl + 1, by omega, by omega, by rw [hst, hsum]; simp only [i64L], by simp, hMi, hBi, by rw [hst, List.map_append, hes]; rfl, hnd' _, hcl' _⟩
                case measure => simp [Lib.intOf]; omega
              · intro x v bn hx hsx W5 hg5 hs5 hr5 hM5
                have hsx : seen.contains bn = false := by simpa using hsx
                have hx2 : (x, v, bn) ∈ es ++ [((d : Int), IntKind.i64.wrap (pw d - sS d seen es), cl)] := by
                  rcases hx with h | ⟨h1, h2, h3⟩
                  · exact List.mem_append.2 (.inl h)
                  · rw [h1, h2, h3]; exact List.mem_append.2 (.inr (by simp))
                have hen := run_entry_IE (P := Try.prog) (x := (x, v, bn)) hr5 hM5 hx2 (hnd' _)
                have hB5 : Below w.heap.size w W5 := hBi.grown hg5 hBi.size (fun k e => by cases e; omega)
                have hmx : leftN ((es ++ [((d : Int), IntKind.i64.wrap (pw d - sS d seen es), cl)]).map (·.2.2)) (seen.push bn) < leftN ((es ++ [((d : Int), IntKind.i64.wrap (pw d - sS d seen es), cl)]).map (·.2.2)) seen := leftN_push (List.mem_map.2 ⟨_, hx2, rfl⟩) hsx
                rcases hx with hx' | hx'
                · have hk := hkeys _ hx'
                  simp only at hk
                  have hx0 : x ≠ 0 := by omega
                  have hxd : x < (d : Int) := hk.2
                  by_cases hxv : (d : Int) % x = 0
                  · have hsp := sS_push (d := d) hnd (x, v, bn) hx' hsx
                    simp only [hxv, if_true] at hsp
                    gi_wp2_with (first
                      | (gi_at_lookup; refine wpListIn_look_last rfl _ _ rfl Try.und75 Try.und3 rfl rfl hM5 hok hokd hne ?_)
                      | (gi_at_mapUpdate; refine wpListIn_put_last rfl _ _ _ rfl Try.und75 Try.und3 rfl rfl rfl hM5 hok hokd hne ?_; intro W6 hg6 hs6 hM6)
                      | gi_in)
                    have hr6 := (hg6.block _ (Array.getElem?_eq_some_iff.1 hr5).1 (fun e => hrb (by cases e; rfl))).trans hr5
                    simp only [← i64L] at hM6
                    rw [wrap_sub, Int.sub_sub, ← hsp] at hM6
                    go_roundw
                    case rel => exact ⟨seen.push bn, hM6, hr6, hB5.grown hg6 hB5.size (fun k e => by cases e; exact hmb)⟩
                    case measure =>
                      rw [rangeLeft_I hM6 hr6]
                      simpa using hmx
                  · have hsp := sS_push (d := d) hnd (x, v, bn) hx' hsx
                    simp only [hxv, if_false, Int.add_zero] at hsp
                    gi_wp2
                    have hM6 := hM5
                    rw [← hsp] at hM6
                    go_roundw
                    case rel => exact ⟨seen.push bn, hM6, hr5, hB5⟩
                    case measure =>
                      rw [rangeLeft_I hM5 hr5, hm1]
                      exact hmx
                · obtain ⟨rfl, rfl, rfl⟩ := hx'
                  have hsp := sS_off (d := d) (seen := seen) hoff
                  gi_wp2
                  have hM6 := hM5
                  rw [← hsp] at hM6
                  go_roundw
                  case rel => exact ⟨seen.push bn, hM6, hr5, hB5⟩
                  case measure =>
                    rw [rangeLeft_I hM5 hr5, hm1]
                    exact hmx
          · gi_wp2
            go_roundw
            case rel => exact ⟨d + 1, es, cl, by omega, by omega, by rw [rTo_succ hd1, rStep, if_neg hdv], by simp, hM, hBr, by rw [rTo_succ hd1, rStep, if_neg hdv]; exact hes, hnd, hcl⟩
            case measure => simp [Lib.intOf]; omega
        · gi_wp2
          obtain rfl : d = m + 1 := by omega
          subst hres
          go_ret2
          exact ⟨rfl, hBr⟩
end Go.Proofs
namespace Go.Vc
open Go.Proofs
set_option linter.unusedVariables false
set_option linter.unnecessarySimpa false
set_option linter.unusedSimpArgs false
section
variable {c : Ctx} {p nid : Nat} {a b : Code} {st : St} {K : Ex → St → Prop}
/- f57: tusche/repeat.power -/
def f57_c6 (out5 : Int) : Option (Int) :=
 some (out5)
def Lf57_c6 : Lp (Int) Unit (Int) := lp0 ⟨[5], [], [], []⟩ (fun out5 => [.dat (iN out5)]) (fun _ => []) (fun out5 => f57_c6 out5)
theorem Ef57_c6 {out5} : (Lf57_c6).E out5 = f57_c6 out5 := rfl
def f57_3b (r3 : Int → Int → Option (Int)) (a0 : Int) (a1 : Int) (k0 : Int → Option (Int)) (out5 : Int) (v7 : Int) : Option (Int) :=
 bif decide (v7 < a1) then (r3 (W (out5 * a0)) (W (v7 + (1 : Int))))
 else (k0 out5)
def f57_3 (a0 : Int) (a1 : Int) (k0 : Int → Option (Int)) : Nat → Int → Int → Option (Int)
  | 0, _, _ => none
  | n + 1, out5, v7 => f57_3b (f57_3 a0 a1 k0 n) a0 a1 k0 out5 v7
def Lf57_3 (a0 : Int) (a1 : Int) (k0 : Int → Option (Int)) : Lp (Nat × Int × Int) Unit (Int) := lp0 ⟨[0, 5, 6, 7], [], [], []⟩ (fun (_, out5, v7) => [.dat (iN a0), .dat (iN out5), .dat (iN a1), .dat (iN v7)]) (fun (_, _, _) => []) (fun (n, out5, v7) => f57_3 a0 a1 k0 n out5 v7)
theorem Ef57_3 {a0 a1 k0 n out5 v7} : (Lf57_3 a0 a1 k0).E (n, out5, v7) = f57_3 a0 a1 k0 n out5 v7 := rfl
def f57 (N : Nat) (a0 : Int) (a1 : Int) : Option (Int) :=
 joinK f57_c6 fun k0 =>
 f57_3 a0 a1 k0 N (1 : Int) (0 : Int)
def G57 (ds : List D) (d : D) : Prop := ∃ (N : Nat) (a0 : Int) (a1 : Int) (r : Int), ds = [iN a0, iN a1] ∧ f57 N a0 a1 = some r ∧ d = iN r
theorem G57.lend {N : Nat} {a0 : Int} {a1 : Int} {ρ : Type} {A : Int → Option ρ} {q : ρ} {ds : List D} {K : D → Prop} (hd : ds = [iN a0, iN a1]) (h : ∀ r, A r = some q → K (iN r)) (hF : (f57 N a0 a1).bind A = some q) : ∃ d, (G57 ds d ∧ d.flatB = true) ∧ K d := by
  obtain ⟨r, hr, hA⟩ := bind_some hF
  exact ⟨_, ⟨⟨N, a0, a1, r, hd, hr, rfl⟩, rfl⟩, h r hA⟩
theorem G57.step {N : Nat} {a0 : Int} {a1 : Int} {ρ : Type} {A : Int → Option ρ} {q : ρ} {ds : List D} {K : D → Prop} (hd : ds = [iN a0, iN a1]) (h : ∀ r, A r = some q → K (iN r)) (hF : (f57 N a0 a1).bind A = some q) : ∃ d, G57 ds d ∧ K d := by
  obtain ⟨r, hr, hA⟩ := bind_some hF
  exact ⟨_, ⟨N, a0, a1, r, hd, hr, rfl⟩, h r hA⟩
set_option maxRecDepth 20000 in
set_option maxHeartbeats 4000000 in
theorem P57 : PureOK Try.prog 57 G57 := by
  refine pure_of_vc (c := mkCtx tyTree []) rfl tyOK (ctx_nil) [[0]] 2 Try.func57 rfl rfl (by decide) (by kernel_rfl) ?_
  rintro ds d ⟨N, a0, a1, r, rfl, hF, rfl⟩ hok
  clear hok
  refine ⟨rfl, ?_⟩
  show vc _ _ _ _ ⟨[(0, .dat (iN a0)), (1, .dat (iN a1))], []⟩ _
  unfold f57 at hF
  repeat' (first
    | ((with_reducible first | refine q0 _ _ ?_ | refine q1 _ _ _ _ ?_ | refine q2 _ _ _ ?_); clear Q q0 q1 q2)
    | ((with_reducible first | refine seq_op ?hx (fun Q q0 q1 q2 => ?_)); (case hx => exact rfl); conv => whnf)
    | ((with_reducible refine cond_id ?_); (first | ((refine condKT rfl ?hy ?_); (case hy => first | assumption | exact notT (by assumption) | exact rfl)) | ((refine condKF rfl ?hy ?_); (case hy => first | assumption | exact notF (by assumption) | exact rfl)) | (revert hF; (with_reducible refine condF ?hx ?_ ?_); (case hx => exact rfl); all_goals (intro hc hF))))
    | ((with_reducible refine seq_nil ?_); (first | ((with_reducible refine hR _ ?_); clear R hR) | ((with_reducible refine hL _ ?_); clear L hL)))
    | ((with_reducible first | refine int_step ?_); conv => whnf)
    | (with_reducible first | refine vc_block ?_ | refine vc_skip ?_ | refine vc_ret ?_ | refine vc_exit ?_ | refine vc_region (fun R hR => ?_) | refine k_seq_ret ?_ | refine k_seq_exit ?_ | refine k_blk ?_ | refine k_blk_ret ?_ | refine k_blk_here ?_ | refine k_loop_ret ?_ | refine k_loop_exit ?_)
    | ((with_reducible refine vc_seqN [6] ?hx ?_); (case hx => exact rfl))
    | (revert hF; (refine Lp.cut0 Lf57_c6 f57_c6 6 rfl rfl ?_ ?_); (intro hF); rotate_left; (rintro out5 hF; dsimp only [Lf57_c6] at hF; unfold f57_c6 at hF); rotate_right)
    | exact Lp.head Ef57_c6 hF () ⟨_, rfl, rfl, rfl, rfl⟩ rfl
    | (revert hF; (refine Lp.loop Ef57_3 () rfl ⟨_, rfl, rfl, rfl, rfl⟩ rfl (fun _ => rfl) ?_); rintro n ⟨out5, v7⟩ hF; dsimp only [Lf57_3, f57_3] at hF; unfold f57_3b at hF)
    | exact Lp.back Ef57_3 hF () ⟨_, rfl, rfl, rfl, rfl⟩ rfl
    | ((with_reducible first | refine k_blk_out ?hx ?_ | refine vc_condT ?hx ?_); (case hx => exact rfl))
    | ((refine row_all ?hn ?_); (case hn => first | exact rfl | (simp; done) | (simp; omega)); conv => whnf)
    | ((with_reducible refine le_step ?hn ?_); (case hn => first | exact rfl | assumption | omega); conv => whnf)
    | ((refine ⟨?hx, ?_⟩); (case hx => exact ⟨rfl, Nat.le_of_ble_eq_true rfl, rfl⟩); conv => whnf)
    | ((with_reducible refine ex_step ?_); conv => whnf)
    | ((with_reducible refine both_T ?hx ?_); (case hx => first | exact rfl | assumption | exact notT (by assumption)); conv => whnf)
    | ((with_reducible refine both_F ?hx ?_); (case hx => first | exact rfl | assumption | exact notF (by assumption)); conv => whnf)
    | (revert hF; (with_reducible refine ite_step ?_ ?_) <;> (intro hc hF; conv => whnf))
    | ((with_reducible refine vc_condF ?hx ?_); (case hx => exact rfl))
    | (show retD _ _ _ _ _ _; conv => whnf)
    | ((refine ⟨?hx, trivial⟩); (case hx => (cases hF; exact rfl)))
    | ((refine ⟨?hx, ?_⟩); (case hx => decide); conv => whnf)
    | with_reducible refine k_seq ?_
    | (have hF : (none : Option _) = some _ := hF; cases hF))
end
end Go.Vc
namespace Go.Vc
open Go.Proofs
set_option linter.unusedVariables false
set_option linter.unnecessarySimpa false
set_option linter.unusedSimpArgs false
section
variable {c : Ctx} {p nid : Nat} {a b : Code} {st : St} {K : Ex → St → Prop}
/- f33: tusche/repeat.Rings (by a contract of its own) -/
/-- all powers are there -/
def pows33 (N : Nat) (k : Int) (n : Nat) : Bool := (List.range' 1 n).all fun d => match f57 N k (d : Int) with | some p => decide (0 ≤ p ∧ p ≤ 4611686018427387904) | none => false
def ring33 (N : Nat) (k n : Int) : Int := (rTo (fun d => (f57 N k d).getD 0) n (n.toNat + 1)).2
def f33 (N : Nat) (a0 : Int) (a1 : Int) : Option (Int × Int) :=
 (f52 N 1 a0 16).bind fun x1 => (f52 N 1 a1 9).bind fun x2 =>
 if x1 = true ∧ x2 = true then (if (1 ≤ a0 ∧ a0 ≤ 16) ∧ pows33 N a1 a0.toNat = true ∧ (0 ≤ ring33 N a1 a0 ∧ ring33 N a1 a0 ≤ 4611686018427387904) then some (ring33 N a1 a0, 0) else none) else some (0, 3)
def G33 (ds : List D) (d : D) : Prop := ∃ (N : Nat) (a0 : Int) (a1 : Int) (r : Int × Int), ds = [iN a0, iN a1] ∧ f33 N a0 a1 = some r ∧ d = .tup [iN r.1, iN r.2]
theorem G33.lend {N : Nat} {a0 : Int} {a1 : Int} {ρ : Type} {A : (Int × Int) → Option ρ} {q : ρ} {ds : List D} {K : D → Prop} (hd : ds = [iN a0, iN a1]) (h : ∀ r, A r = some q → K (.tup [iN r.1, iN r.2])) (hF : (f33 N a0 a1).bind A = some q) : ∃ d, (G33 ds d ∧ d.flatB = true) ∧ K d := by
  obtain ⟨r, hr, hA⟩ := bind_some hF
  exact ⟨_, ⟨⟨N, a0, a1, r, hd, hr, rfl⟩, rfl⟩, h r hA⟩
theorem G33.step {N : Nat} {a0 : Int} {a1 : Int} {ρ : Type} {A : (Int × Int) → Option ρ} {q : ρ} {ds : List D} {K : D → Prop} (hd : ds = [iN a0, iN a1]) (h : ∀ r, A r = some q → K (.tup [iN r.1, iN r.2])) (hF : (f33 N a0 a1).bind A = some q) : ∃ d, G33 ds d ∧ K d := by
  obtain ⟨r, hr, hA⟩ := bind_some hF
  exact ⟨_, ⟨N, a0, a1, r, hd, hr, rfl⟩, h r hA⟩
open Go.RowKit in
theorem P33 : PureOK Try.prog 33 G33 := by
  rintro w Z vs ds d hZ hl hr hg ⟨N, a0, a1, r, rfl, hF, rfl⟩
  obtain ⟨v, u, rfl, h1, h2⟩ := vs_two hl hr
  have i1 : v = .int .i64 a0 ∧ pl (.int .i64 a0) := by cases h1 with | v hp => exact ⟨rfl, hp⟩
  have i2 : u = .int .i64 a1 ∧ pl (.int .i64 a1) := by cases h2 with | v hp => exact ⟨rfl, hp⟩
  obtain ⟨rfl, p1⟩ := i1
  obtain ⟨rfl, p2⟩ := i2
  have ok : ∀ n : Int, 0 ≤ n → n ≤ 4611686018427387904 → pl (.int .i64 n) := fun n h1 h2 => by simp only [pl, IntKind.min, IntKind.max, IntKind.signed, IntKind.bits]; simp; omega
  simp only [f33] at hF
  obtain ⟨b1, hb1, hF⟩ := bind_some hF
  obtain ⟨b2, hb2, hF⟩ := bind_some hF
  have glb : ∀ w1, Below w.heap.size w w1 → Glb Try.prog w1 := fun w1 hb => hg.same fun b hb' => hb.block b (hg.lt hb')
  have bel : ∀ {w1 w' : World}, Ext w1 w' → Below w1.heap.size w1 w' := fun hx => ⟨hx.os, hx.tape, hx.output, hx.size, hx.old⟩
  have c52 : ∀ (x y z : Int) (b : Bool), pl (.int .i64 x) → pl (.int .i64 y) → pl (.int .i64 z) → f52 N x y z = some b → ∀ w1, Below w.heap.size w w1 → Calls Try.prog 52 #[.int .i64 x, .int .i64 y, .int .i64 z] w1 fun e w' => (e = .returned (.bool b) ∧ Below w1.heap.size w1 w') := fun x y z b q1 q2 q3 hb w1 hw => by
    have h := P52 w1 (fun _ => False) [.int .i64 x, .int .i64 y, .int .i64 z] [iN x, iN y, iN z] (bN b) (fun _ h => h.elim) rfl (by
      intro i v d h1 h2
      match i, h1, h2 with
      | 0, h1, h2 => cases h1; cases h2; exact .v q1
      | 1, h1, h2 => cases h1; cases h2; exact .v q2
      | 2, h1, h2 => cases h1; cases h2; exact .v q3
      | (n + 3), h1, h2 => simp at h1) (glb w1 hw) ⟨N, x, y, z, b, rfl, hb, rfl⟩
    refine h.mono ?_
    rintro e w' ⟨v, rfl, hx, hv⟩
    cases hv with | v _ => exact ⟨rfl, bel hx⟩
  have c57 : ∀ (x y p : Int), pl (.int .i64 x) → pl (.int .i64 y) → f57 N x y = some p → ∀ w1, Below w.heap.size w w1 → Calls Try.prog 57 #[.int .i64 x, .int .i64 y] w1 fun e w' => (e = .returned (.int .i64 p) ∧ Below w1.heap.size w1 w') := fun x y p q1 q2 hb w1 hw => by
    have h := P57 w1 (fun _ => False) [.int .i64 x, .int .i64 y] [iN x, iN y] (iN p) (fun _ h => h.elim) rfl (by
      intro i v d h1 h2
      match i, h1, h2 with
      | 0, h1, h2 => cases h1; cases h2; exact .v q1
      | 1, h1, h2 => cases h1; cases h2; exact .v q2
      | (n + 2), h1, h2 => simp at h1) (glb w1 hw) ⟨N, x, y, p, rfl, hb, rfl⟩
    refine h.mono ?_
    rintro e w' ⟨v, rfl, hx, hv⟩
    cases hv with | v _ => exact ⟨rfl, bel hx⟩
  have tup2 : ∀ (F : Nat → Prop) (w' : World) (x y : Value), pl x → pl y → Rd F w' (.tuple #[x, y]) (.tup [.v x, .v y]) := fun F w' x y hx hy => .tup (vs := [x, y]) rfl fun i u d hu hd => by
    match i, hu, hd with
    | 0, hu, hd => cases hu; cases hd; exact .v hx
    | 1, hu, hd => cases hu; cases hd; exact .v hy
    | (n + 2), hu, hd => simp at hu
  have hP : b1 = true → b2 = true → (1 ≤ a0 ∧ a0 ≤ 16) ∧ pows33 N a1 a0.toNat = true ∧ (0 ≤ ring33 N a1 a0 ∧ ring33 N a1 a0 ≤ 4611686018427387904) := by
    intro e1 e2
    rw [if_pos ⟨e1, e2⟩] at hF
    split at hF
    · assumption
    · cases hF
  have hpow : b1 = true → b2 = true → ∀ d : Nat, 1 ≤ d → d ≤ a0 → ∃ p, f57 N a1 (d : Int) = some p ∧ 0 ≤ p ∧ p ≤ 4611686018427387904 := by
    intro e1 e2 d hd1 hd2
    obtain ⟨_, h, _⟩ := hP e1 e2
    have := List.all_eq_true.1 h d (List.mem_range'_1.2 ⟨hd1, by omega⟩)
    cases hq : f57 N a1 (d : Int) with
    | none => rw [hq] at this; cases this
    | some p => rw [hq] at this; exact ⟨p, rfl, by simpa using this⟩
  by_cases hb : b1 = true ∧ b2 = true
  · obtain ⟨e1, e2⟩ := hb
    obtain ⟨hn, _, hr1, hr2⟩ := hP e1 e2
    rw [if_pos ⟨e1, e2⟩, if_pos (hP e1 e2)] at hF
    cases hF
    refine (Go.Proofs.Try.rings_in a0 a1 (fun d => (f57 N a1 d).getD 0) b1 b2 (fun _ _ => hn) w (c52 _ _ _ _ (ok 1 (by omega) (by omega)) p1 (ok 16 (by omega) (by omega)) hb1) (c52 _ _ _ _ (ok 1 (by omega) (by omega)) p2 (ok 9 (by omega) (by omega)) hb2)
      (fun _ _ d hd1 hd2 w1 hw => by
        obtain ⟨p, hp, _⟩ := hpow e1 e2 d hd1 hd2
        rw [show (f57 N a1 (d : Int)).getD 0 = p by rw [hp]; rfl]
        exact c57 _ _ _ p2 (ok _ (by omega) (by omega)) hp w1 hw)
      (fun _ _ d hd1 hd2 => by
        obtain ⟨p, hp, h1, h2⟩ := hpow e1 e2 d hd1 hd2
        rw [show (f57 N a1 (d : Int)).getD 0 = p by rw [hp]; rfl]
        exact wrap_id (ok p h1 h2)) (.tuple #[.int .i64 (ring33 N a1 a0), .int .i64 0]) (by rw [if_pos ⟨e1, e2⟩]; rfl)).mono ?_
    rintro e w' ⟨rfl, hB⟩
    exact ⟨_, rfl, Ext.of_below hB, tup2 _ _ _ _ (ok _ hr1 hr2) (ok _ (by omega) (by omega))⟩
  · rw [if_neg hb] at hF
    cases hF
    refine (Go.Proofs.Try.rings_in a0 a1 (fun d => (f57 N a1 d).getD 0) b1 b2 (fun e1 e2 => absurd ⟨e1, e2⟩ hb) w (c52 _ _ _ _ (ok 1 (by omega) (by omega)) p1 (ok 16 (by omega) (by omega)) hb1) (c52 _ _ _ _ (ok 1 (by omega) (by omega)) p2 (ok 9 (by omega) (by omega)) hb2)
      (fun e1 e2 => absurd ⟨e1, e2⟩ hb) (fun e1 e2 => absurd ⟨e1, e2⟩ hb) (.tuple #[.int .i64 0, .int .i64 3]) (by rw [if_neg hb])).mono ?_
    rintro e w' ⟨rfl, hB⟩
    exact ⟨_, rfl, Ext.of_below hB, tup2 _ _ _ _ (ok _ (by omega) (by omega)) (ok _ (by omega) (by omega))⟩
end
end Go.Vc
namespace Go.Vc
open Go.Proofs
set_option linter.unusedVariables false
set_option linter.unnecessarySimpa false
set_option linter.unusedSimpArgs false
section
variable {c : Ctx} {p nid : Nat} {a b : Code} {st : St} {K : Ex → St → Prop}
/- f62: strings.Join (by a contract of its own) -/
def f62 (N : Nat) (a0 : List ByteArray) (a1 : ByteArray) : Option (ByteArray) :=
 (fun q : List UInt8 => if a0.length ≤ 1000 ∧ q.length ≤ 1000 then some ⟨q.toArray⟩ else none) (Lib.join (a0.map (·.data.toList)) a1.data.toList)
def G62 (ds : List D) (d : D) : Prop := ∃ (N : Nat) (a0 : List ByteArray) (a1 : ByteArray) (r : ByteArray), ds = [sl_strN a0, strN a1] ∧ f62 N a0 a1 = some r ∧ d = strN r
theorem G62.lend {N : Nat} {a0 : List ByteArray} {a1 : ByteArray} {ρ : Type} {A : ByteArray → Option ρ} {q : ρ} {ds : List D} {K : D → Prop} (hd : ds = [sl_strN a0, strN a1]) (h : ∀ r, A r = some q → K (strN r)) (hF : (f62 N a0 a1).bind A = some q) : ∃ d, (G62 ds d ∧ d.flatB = true) ∧ K d := by
  obtain ⟨r, hr, hA⟩ := bind_some hF
  exact ⟨_, ⟨⟨N, a0, a1, r, hd, hr, rfl⟩, rfl⟩, h r hA⟩
theorem G62.step {N : Nat} {a0 : List ByteArray} {a1 : ByteArray} {ρ : Type} {A : ByteArray → Option ρ} {q : ρ} {ds : List D} {K : D → Prop} (hd : ds = [sl_strN a0, strN a1]) (h : ∀ r, A r = some q → K (strN r)) (hF : (f62 N a0 a1).bind A = some q) : ∃ d, G62 ds d ∧ K d := by
  obtain ⟨r, hr, hA⟩ := bind_some hF
  exact ⟨_, ⟨N, a0, a1, r, hd, hr, rfl⟩, h r hA⟩
theorem P62 : PureOK Try.prog 62 G62 := by
  rintro w Z vs ds d hZ hl hr hg ⟨N, a0, a1, r, rfl, hF, rfl⟩
  simp only [f62] at hF
  split at hF
  · rename_i h
    cases hF
    obtain ⟨v, u, rfl, h1, h2⟩ := vs_two hl hr
    obtain ⟨rfl, l2⟩ := rd_str h2
    have hp : pl (.string ⟨(Lib.join (a0.map (·.data.toList)) a1.data.toList).toArray⟩) := by
      show ByteArray.size _ ≤ maxLen
      have := h.2
      simp only [ByteArray.size, List.size_toArray, maxLen]; omega
    generalize hq : (a0.map strN : List D) = es at h1
    have h1 : Rd Z w v (.sl 1 es) := by rw [← hq]; exact h1
    cases h1 with
    | nil hc =>
      have : a0 = [] := by simpa using hq
      subst this
      refine (Go.Proofs.Try.strings_Join_none _ _ a1 w).mono ?_
      rintro e w' ⟨rfl, rfl⟩
      exact ⟨_, rfl, Ext.refl _, .v hp⟩
    | @sl b off n cap _ _ f q1 q2 q3 q4 q5 q6 q7 q8 =>
      subst hq
      have hn : n = a0.length := by simpa using q1.symm
      subst hn
      refine (Go.Proofs.Try.strings_Join b off cap a0 a1 w (fun j x hj => ?_) (hZ b q4) (by omega) q2 (by omega)).mono ?_
      · have e1 : (a0.map strN)[j]? = some (strN x) := by rw [List.getElem?_map, hj]; rfl
        have c1 := q6 j 0 (strN x) (strN x) e1 rfl
        have c2 := q8 j 0 (strN x) (strN x) e1 rfl
        obtain ⟨c3, _⟩ := rd_str c2
        rw [c3] at c1
        simpa using c1
      · rintro e w' ⟨rfl, hB⟩
        exact ⟨_, rfl, Ext.of_below hB, .v hp⟩
  · cases hF
end
end Go.Vc
namespace Go.Vc
open Go.Proofs
set_option linter.unusedVariables false
set_option linter.unnecessarySimpa false
set_option linter.unusedSimpArgs false
section
variable {c : Ctx} {p nid : Nat} {a b : Code} {st : St} {K : Ex → St → Prop}
/- f79: strings.HasSuffix (by a contract of its own) -/
def f79 (N : Nat) (a0 : ByteArray) (a1 : ByteArray) : Option (Bool) :=
 some (Lib.hasSuffix a0.data.toList a1.data.toList)
def G79 (ds : List D) (d : D) : Prop := ∃ (N : Nat) (a0 : ByteArray) (a1 : ByteArray) (r : Bool), ds = [strN a0, strN a1] ∧ f79 N a0 a1 = some r ∧ d = bN r
theorem G79.lend {N : Nat} {a0 : ByteArray} {a1 : ByteArray} {ρ : Type} {A : Bool → Option ρ} {q : ρ} {ds : List D} {K : D → Prop} (hd : ds = [strN a0, strN a1]) (h : ∀ r, A r = some q → K (bN r)) (hF : (f79 N a0 a1).bind A = some q) : ∃ d, (G79 ds d ∧ d.flatB = true) ∧ K d := by
  obtain ⟨r, hr, hA⟩ := bind_some hF
  exact ⟨_, ⟨⟨N, a0, a1, r, hd, hr, rfl⟩, rfl⟩, h r hA⟩
theorem G79.step {N : Nat} {a0 : ByteArray} {a1 : ByteArray} {ρ : Type} {A : Bool → Option ρ} {q : ρ} {ds : List D} {K : D → Prop} (hd : ds = [strN a0, strN a1]) (h : ∀ r, A r = some q → K (bN r)) (hF : (f79 N a0 a1).bind A = some q) : ∃ d, G79 ds d ∧ K d := by
  obtain ⟨r, hr, hA⟩ := bind_some hF
  exact ⟨_, ⟨N, a0, a1, r, hd, hr, rfl⟩, h r hA⟩
theorem P79 : PureOK Try.prog 79 G79 := pure_str2 (fun a b => .bool (Lib.hasSuffix a.data.toList b.data.toList)) (fun _ _ => True) (by
  rintro ds d ⟨N, a0, a1, r, rfl, hF, rfl⟩
  cases hF
  exact ⟨a0, a1, rfl, rfl, trivial⟩) fun a b w _ ha _ _ => ⟨trivial, Go.Proofs.Try.strings_HasSuffix a b w (by simp only [maxLen] at ha; omega)⟩
end
end Go.Vc
namespace Go.Vc
open Go.Proofs
set_option linter.unusedVariables false
set_option linter.unnecessarySimpa false
set_option linter.unusedSimpArgs false
section
variable {c : Ctx} {p nid : Nat} {a b : Code} {st : St} {K : Ex → St → Prop}
/- f64: tusche/repeat.overlap -/
def f64_c4 (k5 : Int) : Option (Int) :=
 some (k5)
def Lf64_c4 : Lp (Int) Unit (Int) := lp0 ⟨[5], [], [], []⟩ (fun k5 => [.dat (iN k5)]) (fun _ => []) (fun k5 => f64_c4 k5)
theorem Ef64_c4 {k5} : (Lf64_c4).E k5 = f64_c4 k5 := rfl
def f64_2b (r2 : Int → Option (Int)) (a0 : ByteArray) (a1 : ByteArray) (N : Nat) (k0 : Int → Option (Int)) (k5 : Int) : Option (Int) :=
 (subS a1 0 k5).bind fun x1 =>
 (f79 N a0 x1).bind fun x2 =>
 bif !x2 then (r2 (W (k5 - (1 : Int))))
 else (k0 k5)
def f64_2 (a0 : ByteArray) (a1 : ByteArray) (N : Nat) (k0 : Int → Option (Int)) : Nat → Int → Option (Int)
  | 0, _ => none
  | n + 1, k5 => f64_2b (f64_2 a0 a1 N k0 n) a0 a1 N k0 k5
def Lf64_2 (a0 : ByteArray) (a1 : ByteArray) (N : Nat) (k0 : Int → Option (Int)) : Lp (Nat × Int) Unit (Int) := lp0 ⟨[0, 1, 5], [], [], []⟩ (fun (_, k5) => [.dat (strN a0), .dat (strN a1), .dat (iN k5)]) (fun (_, _) => []) (fun (n, k5) => f64_2 a0 a1 N k0 n k5)
theorem Ef64_2 {a0 a1 N k0 n k5} : (Lf64_2 a0 a1 N k0).E (n, k5) = f64_2 a0 a1 N k0 n k5 := rfl
def f64 (N : Nat) (a0 : ByteArray) (a1 : ByteArray) : Option (Int) :=
 joinK f64_c4 fun k0 =>
 f64_2 a0 a1 N k0 N (min (ByteArray.size a0 : Int) (ByteArray.size a1 : Int))
def G64 (ds : List D) (d : D) : Prop := ∃ (N : Nat) (a0 : ByteArray) (a1 : ByteArray) (r : Int), ds = [strN a0, strN a1] ∧ f64 N a0 a1 = some r ∧ d = iN r
theorem G64.lend {N : Nat} {a0 : ByteArray} {a1 : ByteArray} {ρ : Type} {A : Int → Option ρ} {q : ρ} {ds : List D} {K : D → Prop} (hd : ds = [strN a0, strN a1]) (h : ∀ r, A r = some q → K (iN r)) (hF : (f64 N a0 a1).bind A = some q) : ∃ d, (G64 ds d ∧ d.flatB = true) ∧ K d := by
  obtain ⟨r, hr, hA⟩ := bind_some hF
  exact ⟨_, ⟨⟨N, a0, a1, r, hd, hr, rfl⟩, rfl⟩, h r hA⟩
theorem G64.step {N : Nat} {a0 : ByteArray} {a1 : ByteArray} {ρ : Type} {A : Int → Option ρ} {q : ρ} {ds : List D} {K : D → Prop} (hd : ds = [strN a0, strN a1]) (h : ∀ r, A r = some q → K (iN r)) (hF : (f64 N a0 a1).bind A = some q) : ∃ d, G64 ds d ∧ K d := by
  obtain ⟨r, hr, hA⟩ := bind_some hF
  exact ⟨_, ⟨N, a0, a1, r, hd, hr, rfl⟩, h r hA⟩
set_option maxRecDepth 20000 in
set_option maxHeartbeats 4000000 in
theorem P64 : PureOK Try.prog 64 G64 := by
  refine pure_of_vc (c := mkCtx tyTree [(79, true, lendPg [[0], [0]] G79)]) rfl tyOK (ctx_lend (callable Try.func79 rfl rfl) P79 (ctx_nil)) [[0]] 2 Try.func64 rfl rfl (by decide) (by kernel_rfl) ?_
  rintro ds d ⟨N, a0, a1, r, rfl, hF, rfl⟩ hok
  clear hok
  refine ⟨rfl, ?_⟩
  show vc _ _ _ _ ⟨[(0, .dat (strN a0)), (1, .dat (strN a1))], []⟩ _
  unfold f64 at hF
  repeat' (first
    | ((with_reducible first | refine q0 _ _ ?_ | refine q1 _ _ _ _ ?_ | refine q2 _ _ _ ?_); clear Q q0 q1 q2)
    | ((with_reducible first | refine seq_op ?hx (fun Q q0 q1 q2 => ?_)); (case hx => exact rfl); conv => whnf)
    | ((with_reducible refine cond_id ?_); (first | ((refine condKT rfl ?hy ?_); (case hy => first | assumption | exact notT (by assumption) | exact rfl)) | ((refine condKF rfl ?hy ?_); (case hy => first | assumption | exact notF (by assumption) | exact rfl)) | (revert hF; (with_reducible refine condF ?hx ?_ ?_); (case hx => exact rfl); all_goals (intro hc hF))))
    | ((with_reducible refine seq_nil ?_); (first | ((with_reducible refine hR _ ?_); clear R hR) | ((with_reducible refine hL _ ?_); clear L hL)))
    | ((with_reducible first | refine int_step ?_); conv => whnf)
    | (with_reducible first | refine vc_block ?_ | refine vc_skip ?_ | refine vc_ret ?_ | refine vc_exit ?_ | refine vc_region (fun R hR => ?_) | refine k_seq_ret ?_ | refine k_seq_exit ?_ | refine k_blk ?_ | refine k_blk_ret ?_ | refine k_blk_here ?_ | refine k_loop_ret ?_ | refine k_loop_exit ?_)
    | ((with_reducible refine vc_seqN [4] ?hx ?_); (case hx => exact rfl))
    | (revert hF; (refine Lp.cut0 Lf64_c4 f64_c4 4 rfl rfl ?_ ?_); (intro hF); rotate_left; (rintro k5 hF; dsimp only [Lf64_c4] at hF; unfold f64_c4 at hF); rotate_right)
    | exact Lp.head Ef64_c4 hF () ⟨_, rfl, rfl, rfl, rfl⟩ rfl
    | (revert hF; (refine Lp.loop Ef64_2 () rfl ⟨_, rfl, rfl, rfl, rfl⟩ rfl (fun _ => rfl) ?_); rintro n k5 hF; dsimp only [Lf64_2, f64_2] at hF; unfold f64_2b at hF)
    | exact Lp.back Ef64_2 hF () ⟨_, rfl, rfl, rfl, rfl⟩ rfl
    | (revert hF; (with_reducible refine G79.lend ?hx ?_); (case hx => exact rfl); intro v hF; conv => whnf)
    | (revert hF; (refine subS_step ?_); intro x hF; conv => whnf)
    | ((with_reducible first | refine k_blk_out ?hx ?_ | refine vc_condT ?hx ?_); (case hx => exact rfl))
    | ((refine row_all ?hn ?_); (case hn => first | exact rfl | (simp; done) | (simp; omega)); conv => whnf)
    | ((with_reducible refine le_step ?hn ?_); (case hn => first | exact rfl | assumption | omega); conv => whnf)
    | ((refine ⟨?hx, ?_⟩); (case hx => exact ⟨rfl, Nat.le_of_ble_eq_true rfl, rfl⟩); conv => whnf)
    | ((with_reducible refine ex_step ?_); conv => whnf)
    | ((with_reducible refine both_T ?hx ?_); (case hx => first | exact rfl | assumption | exact notT (by assumption)); conv => whnf)
    | ((with_reducible refine both_F ?hx ?_); (case hx => first | exact rfl | assumption | exact notF (by assumption)); conv => whnf)
    | (revert hF; (with_reducible refine ite_step ?_ ?_) <;> (intro hc hF; conv => whnf))
    | ((with_reducible refine vc_condF ?hx ?_); (case hx => exact rfl))
    | (show retD _ _ _ _ _ _; conv => whnf)
    | ((refine ⟨?hx, trivial⟩); (case hx => (cases hF; exact rfl)))
    | ((refine ⟨?hx, ?_⟩); (case hx => decide); conv => whnf)
    | with_reducible refine k_seq ?_
    | (have hF : (none : Option _) = some _ := hF; cases hF))
end
end Go.Vc
namespace Go.Vc
open Go.Proofs
set_option linter.unusedVariables false
set_option linter.unnecessarySimpa false
set_option linter.unusedSimpArgs false
section
variable {c : Ctx} {p nid : Nat} {a b : Code} {st : St} {K : Ex → St → Prop}
/- f65: slices.Concat[[]string,string] -/
def f65_c15 (newslice6' : List ByteArray) : Option ((List ByteArray)) :=
 some (newslice6')
def Lf65_c15 : Lp ((List ByteArray)) (Nat) ((List ByteArray)) := ⟨⟨[6], [90006], [(.slot 6, 90006, 9, 1)], []⟩, fun newslice6' => [.rs 90006 (List.length (newslice6'))], fun newslice6' => [.row 9 1 (List.map strN (newslice6'))], fun newslice6' => f65_c15 newslice6', fun _ m0 => [.rs 90006 m0], fun newslice6' _ => [.row 9 1 (List.map strN (newslice6'))], fun newslice6' => List.length (newslice6'), fun _ => rfl, fun _ => rfl⟩
theorem Ef65_c15 {newslice6'} : (Lf65_c15).E newslice6' = f65_c15 newslice6' := rfl
def f65_11b (r11 : (List ByteArray) → Int → Option ((List ByteArray))) (a0 : List (List ByteArray)) (k0 : (List ByteArray) → Option ((List ByteArray))) (newslice6' : List ByteArray) (v27 : Int) : Option ((List ByteArray)) :=
 bif decide (v27 < (List.length a0 : Int)) then ((ix a0 v27).bind fun x1 =>
 (app 16 (newslice6') x1).bind fun x2 =>
 r11 x2 (W (v27 + (1 : Int))))
 else (k0 (newslice6'))
def f65_11 (a0 : List (List ByteArray)) (k0 : (List ByteArray) → Option ((List ByteArray))) : Nat → (List ByteArray) → Int → Option ((List ByteArray))
  | 0, _, _ => none
  | n + 1, newslice6', v27 => f65_11b (f65_11 a0 k0 n) a0 k0 newslice6' v27
def Lf65_11 (a0 : List (List ByteArray)) (k0 : (List ByteArray) → Option ((List ByteArray))) : Lp (Nat × (List ByteArray) × Int) (Nat) ((List ByteArray)) := ⟨⟨[6, 25, 26, 27], [90006], [(.slot 6, 90006, 9, 1)], []⟩, fun (_, newslice6', v27) => [.rs 90006 (List.length (newslice6')), .dat (sl_sl_strN a0), .dat (iN (List.length a0 : Int)), .dat (iN v27)], fun (_, newslice6', _) => [.row 9 1 (List.map strN (newslice6'))], fun (n, newslice6', v27) => f65_11 a0 k0 n newslice6' v27, fun (_, _, v27) m0 => [.rs 90006 m0, .dat (sl_sl_strN a0), .dat (iN (List.length a0 : Int)), .dat (iN v27)], fun (_, newslice6', _) _ => [.row 9 1 (List.map strN (newslice6'))], fun (_, newslice6', _) => List.length (newslice6'), fun _ => rfl, fun _ => rfl⟩
theorem Ef65_11 {a0 k0 n newslice6' v27} : (Lf65_11 a0 k0).E (n, newslice6', v27) = f65_11 a0 k0 n newslice6' v27 := rfl
def f65_c10 (a0 : List (List ByteArray)) (N : Nat) (newslice6 : List ByteArray) : Option ((List ByteArray)) :=
 joinK f65_c15 fun k0 =>
 f65_11 a0 k0 N newslice6 (0 : Int)
def Lf65_c10 (a0 : List (List ByteArray)) (N : Nat) : Lp ((List ByteArray)) (Nat) ((List ByteArray)) := ⟨⟨[0, 6], [90006], [(.slot 6, 90006, 9, 1)], []⟩, fun newslice6 => [.dat (sl_sl_strN a0), .rs 90006 (List.length newslice6)], fun newslice6 => [.row 9 1 (List.map strN newslice6)], fun newslice6 => f65_c10 a0 N newslice6, fun _ m0 => [.dat (sl_sl_strN a0), .rs 90006 m0], fun newslice6 _ => [.row 9 1 (List.map strN newslice6)], fun newslice6 => List.length newslice6, fun _ => rfl, fun _ => rfl⟩
theorem Ef65_c10 {a0 N newslice6} : (Lf65_c10 a0 N).E newslice6 = f65_c10 a0 N newslice6 := rfl
def f65_c9 (a0 : List (List ByteArray)) (N : Nat) (size3 : Int) : Option ((List ByteArray)) :=
 joinK (f65_c10 a0 N) fun k1 =>
 bif decide (size3 < (0 : Int)) then none
 else (bif decide ((0 : Int) < (W (size3 - (W ((0 : Int) - (0 : Int)))))) then ((mkA 16 emptyS (W (size3 - (W ((0 : Int) - (0 : Int)))))).bind fun x3 =>
 (subR x3 0 (0 : Int)).bind fun x4 =>
 k1 x4)
 else (k1 []))
def Lf65_c9 (a0 : List (List ByteArray)) (N : Nat) : Lp (Int) Unit ((List ByteArray)) := lp0 ⟨[0, 3], [], [], []⟩ (fun size3 => [.dat (sl_sl_strN a0), .dat (iN size3)]) (fun _ => []) (fun size3 => f65_c9 a0 N size3)
theorem Ef65_c9 {a0 N size3} : (Lf65_c9 a0 N).E size3 = f65_c9 a0 N size3 := rfl
def f65_3b (r3 : Int → Int → Option ((List ByteArray))) (a0 : List (List ByteArray)) (k2 : Int → Option ((List ByteArray))) (size3 : Int) (v11 : Int) : Option ((List ByteArray)) :=
 bif decide (v11 < (List.length a0 : Int)) then ((ix a0 v11).bind fun x5 =>
 bif decide ((W (size3 + (List.length x5 : Int))) < (0 : Int)) then none
 else (r3 (W (size3 + (List.length x5 : Int))) (W (v11 + (1 : Int)))))
 else (k2 size3)
def f65_3 (a0 : List (List ByteArray)) (k2 : Int → Option ((List ByteArray))) : Nat → Int → Int → Option ((List ByteArray))
  | 0, _, _ => none
  | n + 1, size3, v11 => f65_3b (f65_3 a0 k2 n) a0 k2 size3 v11
def Lf65_3 (a0 : List (List ByteArray)) (k2 : Int → Option ((List ByteArray))) : Lp (Nat × Int × Int) Unit ((List ByteArray)) := lp0 ⟨[0, 3, 9, 10, 11], [], [], []⟩ (fun (_, size3, v11) => [.dat (sl_sl_strN a0), .dat (iN size3), .dat (sl_sl_strN a0), .dat (iN (List.length a0 : Int)), .dat (iN v11)]) (fun (_, _, _) => []) (fun (n, size3, v11) => f65_3 a0 k2 n size3 v11)
theorem Ef65_3 {a0 k2 n size3 v11} : (Lf65_3 a0 k2).E (n, size3, v11) = f65_3 a0 k2 n size3 v11 := rfl
def f65 (N : Nat) (a0 : List (List ByteArray)) : Option ((List ByteArray)) :=
 joinK (f65_c9 a0 N) fun k2 =>
 f65_3 a0 k2 N (0 : Int) (0 : Int)
def G65 (ds : List D) (d : D) : Prop := ∃ (N : Nat) (a0 : List (List ByteArray)) (r : (List ByteArray)), ds = [sl_sl_strN a0] ∧ f65 N a0 = some r ∧ d = sl_strN r
theorem G65.step {N : Nat} {a0 : List (List ByteArray)} {ρ : Type} {A : (List ByteArray) → Option ρ} {q : ρ} {ds : List D} {K : D → Prop} (hd : ds = [sl_sl_strN a0]) (h : ∀ r, A r = some q → K (sl_strN r)) (hF : (f65 N a0).bind A = some q) : ∃ d, G65 ds d ∧ K d := by
  obtain ⟨r, hr, hA⟩ := bind_some hF
  exact ⟨_, ⟨N, a0, r, hd, hr, rfl⟩, h r hA⟩
set_option maxRecDepth 20000 in
set_option maxHeartbeats 4000000 in
theorem P65 : PureOK Try.prog 65 G65 := by
  refine pure_of_vc (c := mkCtx tyTree [(80, false, inlPg (mkCtx tyTree []) Try.f80)]) rfl tyOK (ctx_eff (callable Try.func80 rfl rfl) (CallOK.inl rfl tyOK (ctx_nil) Try.func80 (by kernel_rfl)) (ctx_nil)) [[1]] 1 Try.func65 rfl rfl (by decide) (by kernel_rfl) ?_
  rintro ds d ⟨N, a0, r, rfl, hF, rfl⟩ hok
  clear hok
  refine ⟨rfl, ?_⟩
  show vc _ _ _ _ ⟨[(0, .dat (sl_sl_strN a0))], []⟩ _
  unfold f65 at hF
  repeat' (first
    | ((with_reducible first | refine q0 _ _ ?_ | refine q1 _ _ _ _ ?_ | refine q2 _ _ _ ?_); clear Q q0 q1 q2)
    | ((with_reducible first | refine seq_op ?hx (fun Q q0 q1 q2 => ?_) | refine seq_op0 ?hx (fun Q q0 q1 q2 => ?_)); (case hx => exact rfl); conv => whnf)
    | ((with_reducible refine cond_id ?_); (first | ((refine condKT rfl ?hy ?_); (case hy => first | assumption | exact notT (by assumption) | exact rfl)) | ((refine condKF rfl ?hy ?_); (case hy => first | assumption | exact notF (by assumption) | exact rfl)) | (revert hF; (with_reducible refine condF ?hx ?_ ?_); (case hx => exact rfl); all_goals (intro hc hF))))
    | ((with_reducible refine seq_nil ?_); (first | ((with_reducible refine hR _ ?_); clear R hR) | ((with_reducible refine hL _ ?_); clear L hL)))
    | ((with_reducible first | refine int_step ?_ | refine len_step ?_ | refine idx2 (by assumption) ?_ | refine idx3 (by assumption) ?_); conv => whnf)
    | (with_reducible first | refine vc_block ?_ | refine vc_skip ?_ | refine vc_ret ?_ | refine vc_exit ?_ | refine vc_region (fun R hR => ?_) | refine k_seq_ret ?_ | refine k_seq_exit ?_ | refine k_blk ?_ | refine k_blk_ret ?_ | refine k_blk_here ?_ | refine k_loop_ret ?_ | refine k_loop_exit ?_)
    | ((with_reducible refine vc_seqN [15, 10, 9] ?hx ?_); (case hx => exact rfl))
    | (revert hF; (refine Lp.cut0 Lf65_c15 f65_c15 15 rfl rfl ?_ ?_); (intro hF); rotate_left; (rintro newslice6' hF; dsimp only [Lf65_c15] at hF; unfold f65_c15 at hF); rotate_right)
    | exact Lp.head Ef65_c15 hF _ ⟨_, rfl, rfl, rfl, rfl⟩ (by first | exact rfl | ((try dsimp only [Lf65_c15]); first | assumption | omega | (simp only [List.length_set]; done)))
    | (revert hF; (refine Lp.loop Ef65_11 _ rfl ⟨_, rfl, rfl, rfl, rfl⟩ (by first | exact rfl | ((try dsimp only [Lf65_11]); first | assumption | omega | (simp only [List.length_set]; done))) (fun _ => rfl) ?_); rintro n ⟨newslice6', v27⟩ hF; dsimp only [Lf65_11, f65_11] at hF; unfold f65_11b at hF)
    | exact Lp.back Ef65_11 hF _ ⟨_, rfl, rfl, rfl, rfl⟩ (by first | exact rfl | ((try dsimp only [Lf65_11]); first | assumption | omega | (simp only [List.length_set]; done)))
    | (revert hF; (refine Lp.cut2 Lf65_c10 f65_c10 10 rfl rfl ?_ ?_); (intro hF); rotate_left; (rintro newslice6 hF; dsimp only [Lf65_c10] at hF; unfold f65_c10 at hF); rotate_right)
    | exact Lp.head Ef65_c10 hF _ ⟨_, rfl, rfl, rfl, rfl⟩ (by first | exact rfl | ((try dsimp only [Lf65_c10]); first | assumption | omega | (simp only [List.length_set]; done)))
    | (revert hF; (refine Lp.cut2 Lf65_c9 f65_c9 9 rfl rfl ?_ ?_); (intro hF); rotate_left; (rintro size3 hF; dsimp only [Lf65_c9] at hF; unfold f65_c9 at hF); rotate_right)
    | exact Lp.head Ef65_c9 hF () ⟨_, rfl, rfl, rfl, rfl⟩ rfl
    | (revert hF; (refine Lp.loop Ef65_3 () rfl ⟨_, rfl, rfl, rfl, rfl⟩ rfl (fun _ => rfl) ?_); rintro n ⟨size3, v11⟩ hF; dsimp only [Lf65_3, f65_3] at hF; unfold f65_3b at hF)
    | exact Lp.back Ef65_3 hF () ⟨_, rfl, rfl, rfl, rfl⟩ rfl
    | (revert hF; (refine mkS_row (d := strN) ?hz ?_); (case hz => exact rfl); intro x hF; conv => whnf)
    | (revert hF; (refine mkA_row (d := strN) ?hz ?_); (case hz => exact rfl); intro x hF; conv => whnf)
    | ((with_reducible first | refine k_blk_out ?hx ?_ | refine vc_condT ?hx ?_); (case hx => exact rfl))
    | (revert hF; (with_reducible refine idx1 ?hn ?_); (case hn => first | exact rfl | exact (List.length_map _) | assumption | omega | simp); intro x hx hF; conv => whnf)
    | ((with_reducible have hG := subR_fact hF); clear hF; (refine Or.inl (Or.inl ?_)); (conv => whnf); (refine subrow_step hG ?hn (fun q hF => ?_); (case hn => first | exact rfl | assumption | omega)); clear hG; conv => whnf)
    | ((with_reducible have hG := app_fact hF); clear hF; (first | ((refine app_row hG ?hn ?hs (fun q hF => ?_)); (case hn => first | exact rfl | assumption | omega); (case hs => exact rfl)) | ((refine app_nil (d := strN) hG ?hs (fun q hF => ?_)); (case hs => exact rfl)) | ((refine app_gen (d := strN) hG ?ho ?hn ?hs (fun q hF => ?_)); (case ho => exact rfl); (case hn => exact rfl); (case hs => exact rfl))); clear hG; conv => whnf)
    | ((refine row_all ?hn ?_); (case hn => first | exact rfl | (simp; done) | (simp; omega)); conv => whnf)
    | ((with_reducible refine le_step ?hn ?_); (case hn => first | exact rfl | assumption | omega); conv => whnf)
    | ((refine ⟨?hx, ?_⟩); (case hx => exact ⟨rfl, Nat.le_of_ble_eq_true rfl, rfl⟩); conv => whnf)
    | ((with_reducible refine ex_step ?_); conv => whnf)
    | ((with_reducible refine both_T ?hx ?_); (case hx => first | exact rfl | assumption | exact notT (by assumption)); conv => whnf)
    | ((with_reducible refine both_F ?hx ?_); (case hx => first | exact rfl | assumption | exact notF (by assumption)); conv => whnf)
    | (revert hF; (with_reducible refine ite_step ?_ ?_) <;> (intro hc hF; conv => whnf))
    | ((with_reducible refine vc_condF ?hx ?_); (case hx => exact rfl))
    | (show retD _ _ _ _ _ _; conv => whnf)
    | ((refine inl_step ?ha ?hb ?hc rfl ?_); (case ha => exact rfl); (case hb => omega); (case hc => exact Nat.le_of_ble_eq_true rfl))
    | (show Kinl _ _ _ _ _ _ _; conv => whnf)
    | ((with_reducible refine kinl_step ?ha ?hb ?_); (case ha => exact rfl); (case hb => exact rfl); conv => whnf)
    | ((refine ⟨?hx, trivial⟩); (case hx => (cases hF; exact rfl)))
    | ((refine ⟨?hx, ?_⟩); (case hx => decide); conv => whnf)
    | with_reducible refine k_seq ?_
    | (have hF : (none : Option _) = some _ := hF; cases hF))
end
end Go.Vc
namespace Go.Vc
open Go.Proofs
set_option linter.unusedVariables false
set_option linter.unnecessarySimpa false
set_option linter.unusedSimpArgs false
section
variable {c : Ctx} {p nid : Nat} {a b : Code} {st : St} {K : Ex → St → Prop}
/- f63: tusche/repeat.Join$3 -/
def f63_3b (r3 : Int → ByteArray → Option (ByteArray)) (s0 : ByteArray) (s1 : List ByteArray) (N : Nat) (self : ByteArray → (List ByteArray) → ByteArray → Option (ByteArray)) (v33 : Int) (b0_0' : ByteArray) : Option (ByteArray) :=
 bif decide (v33 < (List.length s1 : Int)) then ((ix s1 v33).bind fun x1 =>
 (f64 N s0 x1).bind fun x2 =>
 (subS x1 x2 (ByteArray.size x1 : Int)).bind fun x3 =>
 (addS s0 x3).bind fun x4 =>
 (sub s1 0 v33).bind fun x5 =>
 (sub s1 (W (v33 + (1 : Int))) (List.length s1 : Int)).bind fun x6 =>
 (f65 N [x5, x6]).bind fun x7 =>
 (self x4 x7 (b0_0')).bind fun x8 =>
 r3 (W (v33 + (1 : Int))) x8)
 else (some (b0_0'))
def f63_3 (s0 : ByteArray) (s1 : List ByteArray) (N : Nat) (self : ByteArray → (List ByteArray) → ByteArray → Option (ByteArray)) : Nat → Int → ByteArray → Option (ByteArray)
  | 0, _, _ => none
  | n + 1, v33, b0_0' => f63_3b (f63_3 s0 s1 N self n) s0 s1 N self v33 b0_0'
def Lf63_3 (s0 : ByteArray) (s1 : List ByteArray) (N : Nat) (self : ByteArray → (List ByteArray) → ByteArray → Option (ByteArray)) : Lp (Nat × Int × ByteArray) Unit (ByteArray) := lp0 ⟨[0, 1, 3, 31, 32, 33], [0, 1], [], []⟩ (fun (_, v33, _) => [.dat (strN s0), .dat (sl_strN s1), .ptr 1 0, .dat (sl_strN s1), .dat (iN (List.length s1 : Int)), .dat (iN v33)]) (fun (_, _, b0_0') => [.box [.dat (strN (b0_0'))], .box [.fn 63 [] [.ptr 0 0, .ptr 1 0]]]) (fun (n, v33, b0_0') => f63_3 s0 s1 N self n v33 b0_0')
theorem Ef63_3 {s0 s1 N self n v33 b0_0'} : (Lf63_3 s0 s1 N self).E (n, v33, b0_0') = f63_3 s0 s1 N self n v33 b0_0' := rfl
def f63_c2 (s0 : ByteArray) (s1 : List ByteArray) (N : Nat) (self : ByteArray → (List ByteArray) → ByteArray → Option (ByteArray)) (b0_0 : ByteArray) : Option (ByteArray) :=
 f63_3 s0 s1 N self N (0 : Int) b0_0
def Lf63_c2 (s0 : ByteArray) (s1 : List ByteArray) (N : Nat) (self : ByteArray → (List ByteArray) → ByteArray → Option (ByteArray)) : Lp (ByteArray) Unit (ByteArray) := lp0 ⟨[0, 1, 3], [0, 1], [], []⟩ (fun _ => [.dat (strN s0), .dat (sl_strN s1), .ptr 1 0]) (fun b0_0 => [.box [.dat (strN b0_0)], .box [.fn 63 [] [.ptr 0 0, .ptr 1 0]]]) (fun b0_0 => f63_c2 s0 s1 N self b0_0)
theorem Ef63_c2 {s0 s1 N self b0_0} : (Lf63_c2 s0 s1 N self).E b0_0 = f63_c2 s0 s1 N self b0_0 := rfl
def f63b (self : ByteArray → (List ByteArray) → ByteArray → Option (ByteArray)) (N : Nat) (s0 : ByteArray) (s1 : List ByteArray) (s2 : ByteArray) : Option (ByteArray) :=
 joinK (f63_c2 s0 s1 N self) fun k0 =>
 bif decide ((List.length s1 : Int) = (0 : Int)) then (bif decide ((ByteArray.size s0 : Int) < (ByteArray.size s2 : Int)) then (k0 s0)
 else (bif decide ((ByteArray.size s0 : Int) = (ByteArray.size s2 : Int)) then (bif strLt s0 s2 then (k0 s0)
 else (k0 s2))
 else (k0 s2)))
 else (k0 s2)
def f63 : Nat → ByteArray → (List ByteArray) → ByteArray → Option (ByteArray)
  | 0, _, _, _ => none
  | N + 1, s0, s1, s2 => f63b (f63 N) N s0 s1 s2
def Af63 (s0 : ByteArray) (s1 : List ByteArray) (s2 : ByteArray) : List SV := [.dat (strN s0), .dat (sl_strN s1), .ptr 0 0, .ptr 1 0]
def Bf63 (s0 : ByteArray) (s1 : List ByteArray) (s2 : ByteArray) : List Blk := [.box [.dat (strN s2)], .box [.fn 63 [] [.ptr 0 0, .ptr 1 0]]]
def Rf63 (y : ByteArray) : List SV := []
def B1f63 (s0 : ByteArray) (s1 : List ByteArray) (s2 : ByteArray) (y : ByteArray) : List Blk := [.box [.dat (strN y)], .box [.fn 63 [] [.ptr 0 0, .ptr 1 0]]]
def BZf63 (y : ByteArray) : Blk := .unborn
def Spf63 : Spec (ByteArray × (List ByteArray) × ByteArray) (ByteArray) := ⟨2, fun x => Af63 x.1 x.2.1 x.2.2, fun x => Bf63 x.1 x.2.1 x.2.2, fun _ y => Rf63 y, fun x y => B1f63 x.1 x.2.1 x.2.2 y, fun _ y => BZf63 y⟩
def H63 (N : Nat) (x : ByteArray × (List ByteArray) × ByteArray) (y : ByteArray) : Prop := f63 N x.1 x.2.1 x.2.2 = some y
def G63 (x : ByteArray × (List ByteArray) × ByteArray) (y : ByteArray) : Prop := ∃ N, H63 N x y
theorem H63.step {N : Nat} {s0 : ByteArray} {s1 : List ByteArray} {s2 : ByteArray} {ρ : Type} {A : ByteArray → Option ρ} {q : ρ} {xs : List SV} {id : Nat} {m : Nat → Blk} {l : List Loc} {K : Dl → List Loc → Prop} {k0 k1 : Nat} (ha : xs = [.dat (strN s0), .dat (sl_strN s1), .ptr k0 0, .ptr k1 0]) (b0 : m k0 = .box [.dat (strN s2)]) (b1 : m k1 = .box [.fn 63 [] [.ptr k0 0, .ptr k1 0]]) (hu : m id = .unborn) (hn : nodupB [k0, k1] = true) (h : ∀ y, A y = some q → K ⟨.tup [], [(k0, .box [.dat (strN y)]), (k1, .box [.fn 63 [] [.ptr k0 0, .ptr k1 0]]), (id, .unborn)]⟩ l) (hF : (f63 N s0 s1 s2).bind A = some q) : effPg Spf63 (H63 N) xs id (fun _ => SV.no) m l K := by
  obtain ⟨y, hy, hA⟩ := bind_some hF
  exact eff_step [k0, k1] (s0, s1, s2) y _ hy rfl hn ha (by simp only [List.map_cons, List.map_nil, b0, b1]; rfl) hu rfl rfl (h y hA)
theorem G63.step {N : Nat} {s0 : ByteArray} {s1 : List ByteArray} {s2 : ByteArray} {ρ : Type} {A : ByteArray → Option ρ} {q : ρ} {xs : List SV} {id : Nat} {m : Nat → Blk} {l : List Loc} {K : Dl → List Loc → Prop} {k0 k1 : Nat} (ha : xs = [.dat (strN s0), .dat (sl_strN s1), .ptr k0 0, .ptr k1 0]) (b0 : m k0 = .box [.dat (strN s2)]) (b1 : m k1 = .box [.fn 63 [] [.ptr k0 0, .ptr k1 0]]) (hu : m id = .unborn) (hn : nodupB [k0, k1] = true) (h : ∀ y, A y = some q → K ⟨.tup [], [(k0, .box [.dat (strN y)]), (k1, .box [.fn 63 [] [.ptr k0 0, .ptr k1 0]]), (id, .unborn)]⟩ l) (hF : (f63 N s0 s1 s2).bind A = some q) : effPg Spf63 (G63) xs id (fun _ => SV.no) m l K := by
  obtain ⟨y, hy, hA⟩ := bind_some hF
  exact eff_step [k0, k1] (s0, s1, s2) y _ ⟨N, hy⟩ rfl hn ha (by simp only [List.map_cons, List.map_nil, b0, b1]; rfl) hu rfl rfl (h y hA)
def Srf63 : Ann := ⟨[], [0, 1, 500], [], []⟩
set_option maxRecDepth 20000 in
set_option maxHeartbeats 4000000 in
theorem Q63 (N : Nat) : CallOK Try.prog 63 (effPg Spf63 (H63 N)) := by
  induction N with
  | zero => exact eff_none fun x y h => (by cases (show (none : Option (ByteArray)) = some y from h))
  | succ N ih =>
    refine eff_of_vc (c := mkCtx tyTree [(63, false, frzPg (effPg Spf63 (H63 N))), (65, true, purePg [[1]] G65), (64, true, lendPg [[0], [0]] G64)]) rfl tyOK (ctx_eff (callable Try.func63 rfl rfl) (CallOK.frz ih) (ctx_cons (callable Try.func65 rfl rfl) P65 (ctx_lend (callable Try.func64 rfl rfl) P64 (ctx_nil)))) 1000 500 Srf63 Try.func63 rfl rfl (by kernel_rfl) rfl rfl rfl rfl rfl (fun _ => rfl) (fun _ => rfl) (fun _ _ => ⟨rfl, rfl⟩) ?_
    rintro ⟨s0, s1, s2⟩ y hF
    have hF : f63b (f63 N) N s0 s1 s2 = some y := hF
    show vc _ _ _ _ ⟨[(0, .dat (strN s0)), (1, .dat (sl_strN s1)), (2, .ptr 0 0), (3, .ptr 1 0)], [(0, .box [.dat (strN s2)]), (1, .box [.fn 63 [] [.ptr 0 0, .ptr 1 0]])]⟩ _
    unfold f63b at hF
    repeat' (first
      | ((with_reducible first | refine q0 _ _ ?_ | refine q1 _ _ _ _ ?_ | refine q2 _ _ _ ?_); clear Q q0 q1 q2)
      | ((with_reducible first | refine seq_op ?hx (fun Q q0 q1 q2 => ?_) | refine draw_op ?hx (fun Q q0 q1 q2 => ?_) | refine seq_op0 ?hx (fun Q q0 q1 q2 => ?_) | refine draw_op0 ?hx (fun Q q0 q1 q2 => ?_)); (case hx => exact rfl); conv => whnf)
      | ((with_reducible first | refine seq_off ?hx ?_ | refine seq_off0 ?hx ?_ | refine draw_off ?hx ?_ | refine draw_off0 ?hx ?_ | refine k_blk_out ?hx ?_ | refine vc_condT ?hx ?_); (case hx => exact rfl))
      | ((with_reducible refine seq_id ?_); (first | ((first | refine seq_opK rfl ?hy (fun Q q0 q1 q2 => ?_) | refine seq_opK0 rfl ?hy (fun Q q0 q1 q2 => ?_)); (case hy => first | assumption | exact notT (by assumption) | exact rfl); conv => whnf) | ((first | refine seq_offK rfl ?hy ?_ | refine seq_offK0 rfl ?hy ?_); (case hy => first | assumption | exact notF (by assumption) | exact rfl)) | (revert hF; (with_reducible first | refine seq_opF ?hx ?_ ?_ | refine seq_opF0 ?hx ?_ ?_); (case hx => exact rfl); (intro hc hF Q q0 q1 q2; conv => whnf); rotate_left; (intro hc hF); rotate_right) | (revert hF; (with_reducible first | refine seq_opN ?hx ?_ ?_ | refine seq_opN0 ?hx ?_ ?_); (case hx => exact rfl); (intro hc hF); rotate_left; (intro hc hF Q q0 q1 q2; conv => whnf); rotate_right)))
      | ((with_reducible refine cond_id ?_); (first | ((refine condKT rfl ?hy ?_); (case hy => first | assumption | exact notT (by assumption) | exact rfl)) | ((refine condKF rfl ?hy ?_); (case hy => first | assumption | exact notF (by assumption) | exact rfl)) | (revert hF; (with_reducible refine condF ?hx ?_ ?_); (case hx => exact rfl); all_goals (intro hc hF))))
      | ((with_reducible refine seq_nil ?_); (first | ((with_reducible refine hR _ ?_); clear R hR) | ((with_reducible refine hL _ ?_); clear L hL)))
      | ((with_reducible refine draw_nil ?_); (with_reducible refine hR _ _ ?hx ?_); (case hx => kernel_rfl); (first | clear R hR | clear hR))
      | ((with_reducible first | refine int_step ?_ | refine len_step ?_ | refine idx2 (by assumption) ?_ | refine idx3 (by assumption) ?_); conv => whnf)
      | (with_reducible first | refine vc_block ?_ | refine vc_skip ?_ | refine vc_ret ?_ | refine vc_exit ?_ | refine vc_region (fun R hR => ?_) | refine k_seq_ret ?_ | refine k_seq_exit ?_ | refine k_blk ?_ | refine k_blk_ret ?_ | refine k_blk_here ?_ | refine k_loop_ret ?_ | refine k_loop_exit ?_)
      | ((with_reducible refine vc_seqN [1000002] ?hx ?_); (case hx => exact rfl))
      | ((with_reducible refine vc_draw ?hx (fun R hR => ?_)); (case hx => exact rfl))
      | ((with_reducible refine vc_tail (n := 17) ?hx ?hn rfl rfl (fun R L hL hR => ?_)); (case hx => kernel_rfl); (case hn => exact rfl); simp only [List.take_succ_cons, List.take_zero, List.drop_succ_cons, List.drop_zero] at hR ⊢)
      | (revert hF; (refine Lp.loop Ef63_3 () rfl ⟨_, rfl, rfl, rfl, rfl⟩ rfl (fun _ => rfl) ?_); rintro n ⟨v33, b0_0'⟩ hF; dsimp only [Lf63_3, f63_3] at hF; unfold f63_3b at hF)
      | exact Lp.back Ef63_3 hF () ⟨_, rfl, rfl, rfl, rfl⟩ rfl
      | (revert hF; (refine Lp.cut4 Lf63_c2 f63_c2 1000002 rfl rfl ?_ ?_); (intro hF); rotate_left; (rintro b0_0 hF; dsimp only [Lf63_c2] at hF; unfold f63_c2 at hF); rotate_right)
      | exact Lp.head Ef63_c2 hF () ⟨_, rfl, rfl, rfl, rfl⟩ rfl
      | (revert hF; (with_reducible refine G64.lend ?hx ?_); (case hx => exact rfl); intro v hF; conv => whnf)
      | (revert hF; (with_reducible refine G65.step ?hx ?_); (case hx => exact rfl); intro v hF; conv => whnf)
      | (revert hF; (refine H63.step rfl rfl rfl  rfl ?hn ?_); (case hn => exact rfl); intro v hF; conv => whnf)
      | (show retE _ _ _ _ _ _; conv => whnf)
      | (cases hF; exact ⟨rfl, rfl, rfl⟩)
      | (revert hF; (refine subS_step ?_); intro x hF; conv => whnf)
      | (revert hF; (refine addS_step ?_); intro x hF; conv => whnf)
      | (revert hF; (with_reducible refine idx1 ?hn ?_); (case hn => first | exact rfl | exact (List.length_map _) | assumption | omega | simp); intro x hx hF; conv => whnf)
      | ((with_reducible have hG := sub_fact hF); clear hF; (refine sub_step hG (fun q hF => ?_)); clear hG; conv => whnf)
      | ((with_reducible refine Or.inr ?_); conv => whnf)
      | ((refine row_all ?hn ?_); (case hn => first | exact rfl | (simp; done) | (simp; omega)); conv => whnf)
      | ((with_reducible refine le_step ?hn ?_); (case hn => first | exact rfl | assumption | omega); conv => whnf)
      | ((refine ⟨?hx, ?_⟩); (case hx => exact ⟨rfl, Nat.le_of_ble_eq_true rfl, rfl⟩); conv => whnf)
      | ((with_reducible refine ex_step ?_); conv => whnf)
      | ((with_reducible refine both_T ?hx ?_); (case hx => first | exact rfl | assumption | exact notT (by assumption)); conv => whnf)
      | ((with_reducible refine both_F ?hx ?_); (case hx => first | exact rfl | assumption | exact notF (by assumption)); conv => whnf)
      | (revert hF; (with_reducible refine ite_step ?_ ?_) <;> (intro hc hF; conv => whnf))
      | ((with_reducible refine vc_condF ?hx ?_); (case hx => exact rfl))
      | (show retD _ _ _ _ _ _; conv => whnf)
      | ((refine ⟨?hx, trivial⟩); (case hx => (cases hF; exact rfl)))
      | ((refine ⟨?hx, ?_⟩); (case hx => decide); conv => whnf)
      | with_reducible refine k_seq ?_
      | (have hF : (none : Option _) = some _ := hF; cases hF))
theorem P63 : CallOK Try.prog 63 (effPg Spf63 G63) := eff_ex Q63
end
end Go.Vc

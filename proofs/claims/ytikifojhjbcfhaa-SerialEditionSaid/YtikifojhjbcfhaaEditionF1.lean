/-
  A library for proofs about Go functions by symbolic evaluation, and plain Lean functions that the walked Go functions compute (written by a program of this claim).
-/
import Derived.Test.YtikifojhjbcfhaaW1
import Derived.Test.YtikifojhjbcfhaaW4
import Derived.Test.YtikifojhjbcfhaaW2
import Derived.Test.YtikifojhjbcfhaaVc3
namespace Go.Vc
open Go.Proofs
set_option linter.unusedVariables false
set_option linter.unnecessarySimpa false
set_option linter.unusedSimpArgs false
section
variable {c : Ctx} {p nid : Nat} {a b : Code} {st : St} {K : Ex → St → Prop}
/- f54: tusche/tuschelaw01.arranged -/
def f54_c12 (out6 : List Int) : Option ((List Int)) :=
 some (out6)
def Lf54_c12 : Lp ((List Int)) (Nat) ((List Int)) := ⟨⟨[6], [90006], [(.slot 6, 90006, 3, 1)], []⟩, fun out6 => [.rs 90006 (List.length out6)], fun out6 => [.row 3 1 (List.map iN out6)], fun out6 => f54_c12 out6, fun _ m0 => [.rs 90006 m0], fun out6 _ => [.row 3 1 (List.map iN out6)], fun out6 => List.length out6, fun _ => rfl, fun _ => rfl⟩
theorem Ef54_c12 {out6} : (Lf54_c12).E out6 = f54_c12 out6 := rfl
def f54_c11 (a1 : A5u8N) (left5' : List Int) (k8 : Int) (r7 : (List Int) → (List Int) → Int → Option ((List Int))) (x1 : Int) (out6' : List Int) : Option ((List Int)) :=
 (sub (left5') 0 (Int.tmod x1 (List.length (left5') : Int))).bind fun x2 =>
 (app 8 [] x2).bind fun x3 =>
 (sub (left5') (W ((Int.tmod x1 (List.length (left5') : Int)) + (1 : Int))) (List.length (left5') : Int)).bind fun x4 =>
 (app 8 x3 x4).bind fun x5 =>
 r7 x5 (out6') (W (k8 + (1 : Int)))
def Lf54_c11 (a1 : A5u8N) (left5' : List Int) (k8 : Int) (r7 : (List Int) → (List Int) → Int → Option ((List Int))) (x1 : Int) : Lp ((List Int)) (Nat × Nat) ((List Int)) := ⟨⟨[3, 5, 6, 8, 9], [0, 90005, 90006], [(.slot 6, 90006, 3, 1)], [90005]⟩, fun out6' => [.ptr 0 0, .rs 90005 (List.length (left5')), .rs 90006 (List.length (out6')), .dat (iN k8), .dat (iN (Int.tmod x1 (List.length (left5') : Int)))], fun out6' => [.box [.dat (u8N a1.e0), .dat (u8N a1.e1), .dat (u8N a1.e2), .dat (u8N a1.e3), .dat (u8N a1.e4)], .fz 3 1 (List.map iN (left5')), .row 3 1 (List.map iN (out6'))], fun out6' => f54_c11 a1 left5' k8 r7 x1 out6', fun _ (m0, m1) => [.ptr 0 0, .rs 90005 m0, .rs 90006 m1, .dat (iN k8), .dat (iN (Int.tmod x1 (List.length (left5') : Int)))], fun out6' (_, _) => [.box [.dat (u8N a1.e0), .dat (u8N a1.e1), .dat (u8N a1.e2), .dat (u8N a1.e3), .dat (u8N a1.e4)], .fz 3 1 (List.map iN (left5')), .row 3 1 (List.map iN (out6'))], fun out6' => (List.length (left5'), List.length (out6')), fun _ => rfl, fun _ => rfl⟩
theorem Ef54_c11 {a1 left5' k8 r7 x1 out6'} : (Lf54_c11 a1 left5' k8 r7 x1).E out6' = f54_c11 a1 left5' k8 r7 x1 out6' := rfl
def f54_7b (r7 : (List Int) → (List Int) → Int → Option ((List Int))) (a1 : A5u8N) (k0 : (List Int) → Option ((List Int))) (left5' : List Int) (out6 : List Int) (k8 : Int) : Option ((List Int)) :=
 bif decide ((0 : Int) < (List.length (left5') : Int)) then ((chkI 5 k8).bind fun _ =>
 (ixN [a1.e0, a1.e1, a1.e2, a1.e3, a1.e4] (Int.toNat k8)).bind fun x1 =>
 (chk (decide ((List.length (left5') : Int) ≠ 0))).bind fun _ =>
 joinK (f54_c11 a1 left5' k8 r7 x1) fun k1 =>
 (ix (left5') (Int.tmod x1 (List.length (left5') : Int))).bind fun x6 =>
 (app 8 out6 [x6]).bind fun x7 =>
 k1 x7)
 else (k0 out6)
def f54_7 (a1 : A5u8N) (k0 : (List Int) → Option ((List Int))) : Nat → (List Int) → (List Int) → Int → Option ((List Int))
  | 0, _, _, _ => none
  | n + 1, left5', out6, k8 => f54_7b (f54_7 a1 k0 n) a1 k0 left5' out6 k8
def Lf54_7 (a1 : A5u8N) (k0 : (List Int) → Option ((List Int))) : Lp (Nat × (List Int) × (List Int) × Int) (Nat × Nat) ((List Int)) := ⟨⟨[3, 5, 6, 8], [0, 90005, 90006], [(.slot 5, 90005, 3, 1), (.slot 6, 90006, 3, 1)], []⟩, fun (_, left5', out6, k8) => [.ptr 0 0, .rs 90005 (List.length (left5')), .rs 90006 (List.length out6), .dat (iN k8)], fun (_, left5', out6, _) => [.box [.dat (u8N a1.e0), .dat (u8N a1.e1), .dat (u8N a1.e2), .dat (u8N a1.e3), .dat (u8N a1.e4)], .row 3 1 (List.map iN (left5')), .row 3 1 (List.map iN out6)], fun (n, left5', out6, k8) => f54_7 a1 k0 n left5' out6 k8, fun (_, _, _, k8) (m0, m1) => [.ptr 0 0, .rs 90005 m0, .rs 90006 m1, .dat (iN k8)], fun (_, left5', out6, _) (_, _) => [.box [.dat (u8N a1.e0), .dat (u8N a1.e1), .dat (u8N a1.e2), .dat (u8N a1.e3), .dat (u8N a1.e4)], .row 3 1 (List.map iN (left5')), .row 3 1 (List.map iN out6)], fun (_, left5', out6, _) => (List.length (left5'), List.length out6), fun _ => rfl, fun _ => rfl⟩
theorem Ef54_7 {a1 k0 n left5' out6 k8} : (Lf54_7 a1 k0).E (n, left5', out6, k8) = f54_7 a1 k0 n left5' out6 k8 := rfl
def f54_c6 (a1 : A5u8N) (N : Nat) (left5 : List Int) : Option ((List Int)) :=
 joinK f54_c12 fun k0 =>
 f54_7 a1 k0 N left5 [] (0 : Int)
def Lf54_c6 (a1 : A5u8N) (N : Nat) : Lp ((List Int)) (Nat) ((List Int)) := ⟨⟨[3, 5, 6], [0, 90005], [(.slot 5, 90005, 3, 1)], []⟩, fun left5 => [.ptr 0 0, .rs 90005 (List.length left5), .nil], fun left5 => [.box [.dat (u8N a1.e0), .dat (u8N a1.e1), .dat (u8N a1.e2), .dat (u8N a1.e3), .dat (u8N a1.e4)], .row 3 1 (List.map iN left5)], fun left5 => f54_c6 a1 N left5, fun _ m0 => [.ptr 0 0, .rs 90005 m0, .nil], fun left5 _ => [.box [.dat (u8N a1.e0), .dat (u8N a1.e1), .dat (u8N a1.e2), .dat (u8N a1.e3), .dat (u8N a1.e4)], .row 3 1 (List.map iN left5)], fun left5 => List.length left5, fun _ => rfl, fun _ => rfl⟩
theorem Ef54_c6 {a1 N left5} : (Lf54_c6 a1 N).E left5 = f54_c6 a1 N left5 := rfl
def f54_3b (r3 : (List Int) → Int → Option ((List Int))) (a0 : Int) (a1 : A5u8N) (k2 : (List Int) → Option ((List Int))) (left5 : List Int) (i7 : Int) : Option ((List Int)) :=
 bif decide (i7 < a0) then ((app 8 left5 [i7]).bind fun x8 =>
 r3 x8 (W (i7 + (1 : Int))))
 else (k2 left5)
def f54_3 (a0 : Int) (a1 : A5u8N) (k2 : (List Int) → Option ((List Int))) : Nat → (List Int) → Int → Option ((List Int))
  | 0, _, _ => none
  | n + 1, left5, i7 => f54_3b (f54_3 a0 a1 k2 n) a0 a1 k2 left5 i7
def Lf54_3 (a0 : Int) (a1 : A5u8N) (k2 : (List Int) → Option ((List Int))) : Lp (Nat × (List Int) × Int) (Nat) ((List Int)) := ⟨⟨[0, 3, 5, 6, 7], [0, 90005], [(.slot 5, 90005, 3, 1)], []⟩, fun (_, left5, i7) => [.dat (iN a0), .ptr 0 0, .rs 90005 (List.length left5), .nil, .dat (iN i7)], fun (_, left5, _) => [.box [.dat (u8N a1.e0), .dat (u8N a1.e1), .dat (u8N a1.e2), .dat (u8N a1.e3), .dat (u8N a1.e4)], .row 3 1 (List.map iN left5)], fun (n, left5, i7) => f54_3 a0 a1 k2 n left5 i7, fun (_, _, i7) m0 => [.dat (iN a0), .ptr 0 0, .rs 90005 m0, .nil, .dat (iN i7)], fun (_, left5, _) _ => [.box [.dat (u8N a1.e0), .dat (u8N a1.e1), .dat (u8N a1.e2), .dat (u8N a1.e3), .dat (u8N a1.e4)], .row 3 1 (List.map iN left5)], fun (_, left5, _) => List.length left5, fun _ => rfl, fun _ => rfl⟩
theorem Ef54_3 {a0 a1 k2 n left5 i7} : (Lf54_3 a0 a1 k2).E (n, left5, i7) = f54_3 a0 a1 k2 n left5 i7 := rfl
def f54 (N : Nat) (a0 : Int) (a1 : A5u8N) : Option ((List Int)) :=
 joinK (f54_c6 a1 N) fun k2 =>
 f54_3 a0 a1 k2 N [] (0 : Int)
def G54 (ds : List D) (d : D) : Prop := ∃ (N : Nat) (a0 : Int) (a1 : A5u8N) (r : (List Int)), ds = [iN a0, A5u8N.d a1] ∧ f54 N a0 a1 = some r ∧ d = sl_iN r
theorem G54.step {N : Nat} {a0 : Int} {a1 : A5u8N} {ρ : Type} {A : (List Int) → Option ρ} {q : ρ} {ds : List D} {K : D → Prop} (hd : ds = [iN a0, A5u8N.d a1]) (h : ∀ r, A r = some q → K (sl_iN r)) (hF : (f54 N a0 a1).bind A = some q) : ∃ d, G54 ds d ∧ K d := by
  obtain ⟨r, hr, hA⟩ := bind_some hF
  exact ⟨_, ⟨N, a0, a1, r, hd, hr, rfl⟩, h r hA⟩
set_option maxRecDepth 20000 in
set_option maxHeartbeats 4000000 in
theorem P54 : PureOK Try.prog 54 G54 := by
  refine pure_of_vc (c := mkCtx tyTree []) rfl tyOK (ctx_nil) [[1]] 2 Try.func54 rfl rfl (by decide) (by kernel_rfl) ?_
  rintro ds d ⟨N, a0, a1, r, rfl, hF, rfl⟩ hok
  clear hok
  refine ⟨rfl, ?_⟩
  show vc _ _ _ _ ⟨[(0, .dat (iN a0)), (1, .dat (A5u8N.d a1))], []⟩ _
  unfold f54 at hF
  repeat' (first
    | ((with_reducible first | refine q0 _ _ ?_ | refine q1 _ _ _ _ ?_ | refine q2 _ _ _ ?_); clear Q q0 q1 q2)
    | ((with_reducible first | refine seq_op ?hx (fun Q q0 q1 q2 => ?_) | refine draw_op ?hx (fun Q q0 q1 q2 => ?_)); (case hx => exact rfl); conv => whnf)
    | ((with_reducible refine cond_id ?_); (first | ((refine condKT rfl ?hy ?_); (case hy => first | assumption | exact notT (by assumption) | exact rfl)) | ((refine condKF rfl ?hy ?_); (case hy => first | assumption | exact notF (by assumption) | exact rfl)) | (revert hF; (with_reducible refine condF ?hx ?_ ?_); (case hx => exact rfl); all_goals (intro hc hF))))
    | ((with_reducible refine seq_nil ?_); (first | ((with_reducible refine hR _ ?_); clear R hR) | ((with_reducible refine hL _ ?_); clear L hL)))
    | ((with_reducible refine draw_nil ?_); (with_reducible refine hR _ _ ?hx ?_); (case hx => kernel_rfl); (first | clear R hR | clear hR))
    | ((with_reducible first | refine int_step ?_ | refine len_step ?_ | refine idx2 (by assumption) ?_ | refine idx3 (by assumption) ?_); conv => whnf)
    | (with_reducible first | refine vc_block ?_ | refine vc_skip ?_ | refine vc_ret ?_ | refine vc_exit ?_ | refine vc_region (fun R hR => ?_) | refine k_seq_ret ?_ | refine k_seq_exit ?_ | refine k_blk ?_ | refine k_blk_ret ?_ | refine k_blk_here ?_ | refine k_loop_ret ?_ | refine k_loop_exit ?_)
    | ((with_reducible refine vc_seqN [12, 11, 6] ?hx ?_); (case hx => exact rfl))
    | ((with_reducible refine vc_draw ?hx (fun R hR => ?_)); (case hx => exact rfl))
    | (revert hF; (refine Lp.cut0 Lf54_c12 f54_c12 12 rfl rfl ?_ ?_); (intro hF); rotate_left; (rintro out6 hF; dsimp only [Lf54_c12] at hF; unfold f54_c12 at hF); rotate_right)
    | exact Lp.head Ef54_c12 hF _ ⟨_, rfl, rfl, rfl, rfl⟩ (by first | exact rfl | ((try dsimp only [Lf54_c12]); first | assumption | omega | (simp only [List.length_set]; done)))
    | (revert hF; (refine Lp.cut5 Lf54_c11 f54_c11 11 rfl rfl ?_ ?_); (intro hF); rotate_left; (rintro out6' hF; dsimp only [Lf54_c11] at hF; unfold f54_c11 at hF); rotate_right)
    | exact Lp.head Ef54_c11 hF (_, _) ⟨_, rfl, rfl, rfl, rfl⟩ (pr2 (by first | exact rfl | ((try dsimp only [Lf54_c11]); first | assumption | omega | (simp only [List.length_set]; done))) (by first | exact rfl | ((try dsimp only [Lf54_c11]); first | assumption | omega | (simp only [List.length_set]; done))))
    | (revert hF; (refine Lp.loop Ef54_7 (_, _) rfl ⟨_, rfl, rfl, rfl, rfl⟩ (pr2 (by first | exact rfl | ((try dsimp only [Lf54_7]); first | assumption | omega | (simp only [List.length_set]; done))) (by first | exact rfl | ((try dsimp only [Lf54_7]); first | assumption | omega | (simp only [List.length_set]; done)))) (fun _ => rfl) ?_); rintro n ⟨left5', out6, k8⟩ hF; dsimp only [Lf54_7, f54_7] at hF; unfold f54_7b at hF)
    | exact Lp.back Ef54_7 hF (_, _) ⟨_, rfl, rfl, rfl, rfl⟩ (pr2 (by first | exact rfl | ((try dsimp only [Lf54_7]); first | assumption | omega | (simp only [List.length_set]; done))) (by first | exact rfl | ((try dsimp only [Lf54_7]); first | assumption | omega | (simp only [List.length_set]; done))))
    | (revert hF; (refine Lp.cut2 Lf54_c6 f54_c6 6 rfl rfl ?_ ?_); (intro hF); rotate_left; (rintro left5 hF; dsimp only [Lf54_c6] at hF; unfold f54_c6 at hF); rotate_right)
    | exact Lp.head Ef54_c6 hF _ ⟨_, rfl, rfl, rfl, rfl⟩ (by first | exact rfl | ((try dsimp only [Lf54_c6]); first | assumption | omega | (simp only [List.length_set]; done)))
    | (revert hF; (refine Lp.loop Ef54_3 _ rfl ⟨_, rfl, rfl, rfl, rfl⟩ (by first | exact rfl | ((try dsimp only [Lf54_3]); first | assumption | omega | (simp only [List.length_set]; done))) (fun _ => rfl) ?_); rintro n ⟨left5, i7⟩ hF; dsimp only [Lf54_3, f54_3] at hF; unfold f54_3b at hF)
    | exact Lp.back Ef54_3 hF _ ⟨_, rfl, rfl, rfl, rfl⟩ (by first | exact rfl | ((try dsimp only [Lf54_3]); first | assumption | omega | (simp only [List.length_set]; done)))
    | ((with_reducible have hG := ixN_fact hF); clear hF; (refine box_step (d := u8N) hG (by omega) rfl (fun _ => ⟨_, rfl⟩) (fun x hF => ?_)); clear hG)
    | ((with_reducible refine chkI_go hF ?_); (clear hF; intro hF; conv => whnf))
    | ((with_reducible have hG := ixN_fact hF); clear hF; (first | (refine ixN_one hG (by (try simp only [W]); omega) (fun x hF => ?_)) | (refine ixN_agg hG (fun _ => rfl) (by (try simp only [W]); omega) (fun x hF => ?_))); clear hG; conv => whnf)
    | ((with_reducible have hG := setN_fact hF); clear hF; (first | (refine setN_one hG (by (try simp only [W]); omega) rfl rfl (fun q hF => ?_)) | (refine setN_agg hG (fun _ => rfl) (by (try simp only [W]); omega) rfl rfl (fun q hF => ?_))); clear hG; conv => whnf)
    | ((with_reducible first | refine k_blk_out ?hx ?_ | refine vc_condT ?hx ?_); (case hx => exact rfl))
    | (revert hF; (with_reducible refine idx1 ?hn ?_); (case hn => first | exact rfl | exact (List.length_map _) | assumption | omega | simp); intro x hx hF; conv => whnf)
    | ((with_reducible have hG := sub_fact hF); clear hF; (refine sub_step hG (fun q hF => ?_)); clear hG; conv => whnf)
    | ((with_reducible refine Or.inr ?_); conv => whnf)
    | ((with_reducible have hG := app_fact hF); clear hF; (first | ((refine app_row hG ?hn ?hs (fun q hF => ?_)); (case hn => first | exact rfl | assumption | omega); (case hs => exact rfl)) | ((refine app_nil (d := iN) hG ?hs (fun q hF => ?_)); (case hs => exact rfl)) | ((refine app_gen (d := iN) hG ?ho ?hn ?hs (fun q hF => ?_)); (case ho => exact rfl); (case hn => exact rfl); (case hs => exact rfl))); clear hG; conv => whnf)
    | ((refine row_all ?hn ?_); (case hn => first | exact rfl | (simp; done) | (simp; omega)); conv => whnf)
    | ((with_reducible refine le_step ?hn ?_); (case hn => first | exact rfl | assumption | omega); conv => whnf)
    | ((refine ⟨?hx, ?_⟩); (case hx => exact ⟨rfl, Nat.le_of_ble_eq_true rfl, rfl⟩); conv => whnf)
    | ((with_reducible refine ex_step ?_); conv => whnf)
    | ((with_reducible have hG := chk_fact hF); clear hF; (refine ⟨?hx, ?_⟩); (case hx => (first | exact of_decide_eq_true hG.1 | exact hG.1)); have hF := hG.2; clear hG; conv => whnf)
    | ((with_reducible refine both_T ?hx ?_); (case hx => first | exact rfl | assumption | exact notT (by assumption)); conv => whnf)
    | ((with_reducible refine both_F ?hx ?_); (case hx => first | exact rfl | assumption | exact notF (by assumption)); conv => whnf)
    | (revert hF; (with_reducible refine ite_step ?_ ?_) <;> (intro hc hF; conv => whnf))
    | ((with_reducible refine vc_condF ?hx ?_); (case hx => exact rfl))
    | (show retD _ _ _ _ _ _; conv => whnf)
    | ((refine ⟨?hx, trivial⟩); (case hx => (cases hF; exact rfl)))
    | ((refine ⟨?hx, ?_⟩); (case hx => decide); conv => whnf)
    | with_reducible refine k_seq ?_
    | (have hF : (none : Option _) = some _ := hF; cases hF))
end
end Go.Vc
namespace Go.Vc
open Go.Proofs
set_option linter.unusedVariables false
set_option linter.unnecessarySimpa false
set_option linter.unusedSimpArgs false
section
variable {c : Ctx} {p nid : Nat} {a b : Code} {st : St} {K : Ex → St → Prop}
/- f39: (tusche/tuschelaw01.Plate).made -/
def f39_c12 (b301 : List (List Int)) : Option ((List (List Int))) :=
 some (b301)
def Lf39_c12 : Lp ((List (List Int))) (Nat) ((List (List Int))) := ⟨⟨[7], [301], [], []⟩, fun b301 => [.rs 301 (List.length b301)], fun b301 => [.nest 27 3 1 none (List.map (List.map iN) b301)], fun b301 => f39_c12 b301, fun _ m0 => [.rs 301 m0], fun b301 _ => [.nest 27 3 1 none (List.map (List.map iN) b301)], fun b301 => List.length b301, fun _ => rfl, fun _ => rfl⟩
theorem Ef39_c12 {b301} : (Lf39_c12).E b301 = f39_c12 b301 := rfl
def f39_c11 (a0 : Plate) (x1 : List Int) (x2 : List Int) (x3 : List Int) (x4 : List (List Int)) (v31 : Int) (r5 : Int → (List (List Int)) → Option ((List (List Int)))) (b301' : List (List Int)) : Option ((List (List Int))) :=
 r5 (W (v31 + (1 : Int))) (b301')
def Lf39_c11 (a0 : Plate) (x1 : List Int) (x2 : List Int) (x3 : List Int) (x4 : List (List Int)) (v31 : Int) (r5 : Int → (List (List Int)) → Option ((List (List Int)))) : Lp ((List (List Int))) (Nat) ((List (List Int))) := ⟨⟨[3, 4, 5, 6, 7, 30, 31], [301], [], []⟩, fun b301' => [.dat (iN (W ((2 : Int) + (Int.tmod a0.Base (4 : Int))))), .dat (sl_iN x1), .dat (sl_iN x2), .dat (sl_iN x3), .rs 301 (List.length (b301')), .dat (iN (List.length x4 : Int)), .dat (iN v31)], fun b301' => [.nest 27 3 1 none (List.map (List.map iN) (b301'))], fun b301' => f39_c11 a0 x1 x2 x3 x4 v31 r5 b301', fun _ m0 => [.dat (iN (W ((2 : Int) + (Int.tmod a0.Base (4 : Int))))), .dat (sl_iN x1), .dat (sl_iN x2), .dat (sl_iN x3), .rs 301 m0, .dat (iN (List.length x4 : Int)), .dat (iN v31)], fun b301' _ => [.nest 27 3 1 none (List.map (List.map iN) (b301'))], fun b301' => List.length (b301'), fun _ => rfl, fun _ => rfl⟩
theorem Ef39_c11 {a0 x1 x2 x3 x4 v31 r5 b301'} : (Lf39_c11 a0 x1 x2 x3 x4 v31 r5).E b301' = f39_c11 a0 x1 x2 x3 x4 v31 r5 b301' := rfl
def f39_8b (r8 : Int → (List (List Int)) → Option ((List (List Int)))) (a0 : Plate) (x1 : List Int) (x2 : List Int) (x3 : List Int) (x4 : List (List Int)) (v31 : Int) (k1 : (List (List Int)) → Option ((List (List Int)))) (d9 : Int) (b301' : List (List Int)) : Option ((List (List Int))) :=
 bif decide (d9 < (W ((2 : Int) + (Int.tmod a0.Base (4 : Int))))) then ((ix (b301') v31).bind fun x5 =>
 (ix x1 v31).bind fun x6 =>
 (ix x2 d9).bind fun x7 =>
 (chk (decide ((W ((2 : Int) + (Int.tmod a0.Base (4 : Int)))) ≠ 0))).bind fun _ =>
 (ix x3 (Int.tmod (W (x6 + x7)) (W ((2 : Int) + (Int.tmod a0.Base (4 : Int)))))).bind fun x8 =>
 (app 8 x5 [x8]).bind fun x9 =>
 (ix (b301') v31).bind fun x10 =>
 (setx (b301') v31 x9).bind fun x11 =>
 r8 (W (d9 + (1 : Int))) x11)
 else (k1 (b301'))
def f39_8 (a0 : Plate) (x1 : List Int) (x2 : List Int) (x3 : List Int) (x4 : List (List Int)) (v31 : Int) (k1 : (List (List Int)) → Option ((List (List Int)))) : Nat → Int → (List (List Int)) → Option ((List (List Int)))
  | 0, _, _ => none
  | n + 1, d9, b301' => f39_8b (f39_8 a0 x1 x2 x3 x4 v31 k1 n) a0 x1 x2 x3 x4 v31 k1 d9 b301'
def Lf39_8 (a0 : Plate) (x1 : List Int) (x2 : List Int) (x3 : List Int) (x4 : List (List Int)) (v31 : Int) (k1 : (List (List Int)) → Option ((List (List Int)))) : Lp (Nat × Int × (List (List Int))) (Nat) ((List (List Int))) := ⟨⟨[3, 4, 5, 6, 7, 8, 9, 30, 31], [301], [], []⟩, fun (_, d9, b301') => [.dat (iN (W ((2 : Int) + (Int.tmod a0.Base (4 : Int))))), .dat (sl_iN x1), .dat (sl_iN x2), .dat (sl_iN x3), .rs 301 (List.length (b301')), .dat (iN v31), .dat (iN d9), .dat (iN (List.length x4 : Int)), .dat (iN v31)], fun (_, _, b301') => [.nest 27 3 1 none (List.map (List.map iN) (b301'))], fun (n, d9, b301') => f39_8 a0 x1 x2 x3 x4 v31 k1 n d9 b301', fun (_, d9, _) m0 => [.dat (iN (W ((2 : Int) + (Int.tmod a0.Base (4 : Int))))), .dat (sl_iN x1), .dat (sl_iN x2), .dat (sl_iN x3), .rs 301 m0, .dat (iN v31), .dat (iN d9), .dat (iN (List.length x4 : Int)), .dat (iN v31)], fun (_, _, b301') _ => [.nest 27 3 1 none (List.map (List.map iN) (b301'))], fun (_, _, b301') => List.length (b301'), fun _ => rfl, fun _ => rfl⟩
theorem Ef39_8 {a0 x1 x2 x3 x4 v31 k1 n d9 b301'} : (Lf39_8 a0 x1 x2 x3 x4 v31 k1).E (n, d9, b301') = f39_8 a0 x1 x2 x3 x4 v31 k1 n d9 b301' := rfl
def f39_5b (r5 : Int → (List (List Int)) → Option ((List (List Int)))) (a0 : Plate) (N : Nat) (x1 : List Int) (x2 : List Int) (x3 : List Int) (x4 : List (List Int)) (k0 : (List (List Int)) → Option ((List (List Int)))) (v31 : Int) (b301 : List (List Int)) : Option ((List (List Int))) :=
 bif decide (v31 < (List.length x4 : Int)) then (joinK (f39_c11 a0 x1 x2 x3 x4 v31 r5) fun k1 =>
 f39_8 a0 x1 x2 x3 x4 v31 k1 N (0 : Int) b301)
 else (k0 b301)
def f39_5 (a0 : Plate) (N : Nat) (x1 : List Int) (x2 : List Int) (x3 : List Int) (x4 : List (List Int)) (k0 : (List (List Int)) → Option ((List (List Int)))) : Nat → Int → (List (List Int)) → Option ((List (List Int)))
  | 0, _, _ => none
  | n + 1, v31, b301 => f39_5b (f39_5 a0 N x1 x2 x3 x4 k0 n) a0 N x1 x2 x3 x4 k0 v31 b301
def Lf39_5 (a0 : Plate) (N : Nat) (x1 : List Int) (x2 : List Int) (x3 : List Int) (x4 : List (List Int)) (k0 : (List (List Int)) → Option ((List (List Int)))) : Lp (Nat × Int × (List (List Int))) (Nat) ((List (List Int))) := ⟨⟨[3, 4, 5, 6, 7, 30, 31], [301], [], []⟩, fun (_, v31, b301) => [.dat (iN (W ((2 : Int) + (Int.tmod a0.Base (4 : Int))))), .dat (sl_iN x1), .dat (sl_iN x2), .dat (sl_iN x3), .rs 301 (List.length b301), .dat (iN (List.length x4 : Int)), .dat (iN v31)], fun (_, _, b301) => [.nest 27 3 1 none (List.map (List.map iN) b301)], fun (n, v31, b301) => f39_5 a0 N x1 x2 x3 x4 k0 n v31 b301, fun (_, v31, _) m0 => [.dat (iN (W ((2 : Int) + (Int.tmod a0.Base (4 : Int))))), .dat (sl_iN x1), .dat (sl_iN x2), .dat (sl_iN x3), .rs 301 m0, .dat (iN (List.length x4 : Int)), .dat (iN v31)], fun (_, _, b301) _ => [.nest 27 3 1 none (List.map (List.map iN) b301)], fun (_, _, b301) => List.length b301, fun _ => rfl, fun _ => rfl⟩
theorem Ef39_5 {a0 N x1 x2 x3 x4 k0 n v31 b301} : (Lf39_5 a0 N x1 x2 x3 x4 k0).E (n, v31, b301) = f39_5 a0 N x1 x2 x3 x4 k0 n v31 b301 := rfl
def f39 (N : Nat) (a0 : Plate) : Option ((List (List Int))) :=
 (f54 N (W ((2 : Int) + (Int.tmod a0.Base (4 : Int)))) a0.Rows).bind fun x1 =>
 (f54 N (W ((2 : Int) + (Int.tmod a0.Base (4 : Int)))) a0.Columns).bind fun x2 =>
 (f54 N (W ((2 : Int) + (Int.tmod a0.Base (4 : Int)))) a0.Numbers).bind fun x3 =>
 (mkS 24 [] (W ((2 : Int) + (Int.tmod a0.Base (4 : Int)))) (W ((2 : Int) + (Int.tmod a0.Base (4 : Int))))).bind fun x4 =>
 joinK f39_c12 fun k0 =>
 f39_5 a0 N x1 x2 x3 x4 k0 N (0 : Int) x4
def G39 (ds : List D) (d : D) : Prop := ∃ (N : Nat) (a0 : Plate) (r : (List (List Int))), ds = [Plate.d a0] ∧ f39 N a0 = some r ∧ d = sl_sl_iN r
theorem G39.step {N : Nat} {a0 : Plate} {ρ : Type} {A : (List (List Int)) → Option ρ} {q : ρ} {ds : List D} {K : D → Prop} (hd : ds = [Plate.d a0]) (h : ∀ r, A r = some q → K (sl_sl_iN r)) (hF : (f39 N a0).bind A = some q) : ∃ d, G39 ds d ∧ K d := by
  obtain ⟨r, hr, hA⟩ := bind_some hF
  exact ⟨_, ⟨N, a0, r, hd, hr, rfl⟩, h r hA⟩
set_option maxRecDepth 20000 in
set_option maxHeartbeats 4000000 in
theorem P39 : PureOK Try.prog 39 G39 := by
  refine pure_of_vc (c := mkCtx tyTree [(54, true, purePg [[0], [0, 0, 0, 0, 0]] G54)]) rfl tyOK (ctx_cons (callable Try.func54 rfl rfl) P54 (ctx_nil)) [[1]] 1 Try.func39 rfl rfl (by decide) (by kernel_rfl) ?_
  rintro ds d ⟨N, a0, r, rfl, hF, rfl⟩ hok
  clear hok
  refine ⟨rfl, ?_⟩
  show vc _ _ _ _ ⟨[(0, .dat (Plate.d a0))], []⟩ _
  unfold f39 at hF
  repeat' (first
    | ((with_reducible first | refine q0 _ _ ?_ | refine q1 _ _ _ _ ?_ | refine q2 _ _ _ ?_); clear Q q0 q1 q2)
    | ((with_reducible first | refine seq_op ?hx (fun Q q0 q1 q2 => ?_) | refine draw_op ?hx (fun Q q0 q1 q2 => ?_) | refine seq_op0 ?hx (fun Q q0 q1 q2 => ?_) | refine draw_op0 ?hx (fun Q q0 q1 q2 => ?_)); (case hx => exact rfl); conv => whnf)
    | ((with_reducible refine cond_id ?_); (first | ((refine condKT rfl ?hy ?_); (case hy => first | assumption | exact notT (by assumption) | exact rfl)) | ((refine condKF rfl ?hy ?_); (case hy => first | assumption | exact notF (by assumption) | exact rfl)) | (revert hF; (with_reducible refine condF ?hx ?_ ?_); (case hx => exact rfl); all_goals (intro hc hF))))
    | ((with_reducible refine seq_nil ?_); (first | ((with_reducible refine hR _ ?_); clear R hR) | ((with_reducible refine hL _ ?_); clear L hL)))
    | ((with_reducible refine draw_nil ?_); (with_reducible refine hR _ _ ?hx ?_); (case hx => kernel_rfl); (first | clear R hR | clear hR))
    | ((with_reducible first | refine int_step ?_ | refine len_step ?_ | refine idx2 (by assumption) ?_ | refine idx3 (by assumption) ?_); conv => whnf)
    | (with_reducible first | refine vc_block ?_ | refine vc_skip ?_ | refine vc_ret ?_ | refine vc_exit ?_ | refine vc_region (fun R hR => ?_) | refine k_seq_ret ?_ | refine k_seq_exit ?_ | refine k_blk ?_ | refine k_blk_ret ?_ | refine k_blk_here ?_ | refine k_loop_ret ?_ | refine k_loop_exit ?_)
    | ((with_reducible refine vc_seqN [12, 11] ?hx ?_); (case hx => exact rfl))
    | ((with_reducible refine vc_draw ?hx (fun R hR => ?_)); (case hx => exact rfl))
    | (revert hF; (refine Lp.cut0 Lf39_c12 f39_c12 12 rfl rfl ?_ ?_); (intro hF); rotate_left; (rintro b301 hF; dsimp only [Lf39_c12] at hF; unfold f39_c12 at hF); rotate_right)
    | exact Lp.head Ef39_c12 hF _ ⟨_, rfl, rfl, rfl, rfl⟩ (by first | exact rfl | ((try dsimp only [Lf39_c12]); first | assumption | omega | (simp only [List.length_set]; done)))
    | (revert hF; (refine Lp.cut7 Lf39_c11 f39_c11 11 rfl rfl ?_ ?_); (intro hF); rotate_left; (rintro b301' hF; dsimp only [Lf39_c11] at hF; unfold f39_c11 at hF); rotate_right)
    | exact Lp.head Ef39_c11 hF _ ⟨_, rfl, rfl, rfl, rfl⟩ (by first | exact rfl | ((try dsimp only [Lf39_c11]); first | assumption | omega | (simp only [List.length_set]; done)))
    | (revert hF; (refine Lp.loop Ef39_8 _ rfl ⟨_, rfl, rfl, rfl, rfl⟩ (by first | exact rfl | ((try dsimp only [Lf39_8]); first | assumption | omega | (simp only [List.length_set]; done))) (fun _ => rfl) ?_); rintro n ⟨d9, b301'⟩ hF; dsimp only [Lf39_8, f39_8] at hF; unfold f39_8b at hF)
    | exact Lp.back Ef39_8 hF _ ⟨_, rfl, rfl, rfl, rfl⟩ (by first | exact rfl | ((try dsimp only [Lf39_8]); first | assumption | omega | (simp only [List.length_set]; done)))
    | (revert hF; (refine Lp.loop Ef39_5 _ rfl ⟨_, rfl, rfl, rfl, rfl⟩ (by first | exact rfl | ((try dsimp only [Lf39_5]); first | assumption | omega | (simp only [List.length_set]; done))) (fun _ => rfl) ?_); rintro n ⟨v31, b301⟩ hF; dsimp only [Lf39_5, f39_5] at hF; unfold f39_5b at hF)
    | exact Lp.back Ef39_5 hF _ ⟨_, rfl, rfl, rfl, rfl⟩ (by first | exact rfl | ((try dsimp only [Lf39_5]); first | assumption | omega | (simp only [List.length_set]; done)))
    | (revert hF; (with_reducible refine G54.step ?hx ?_); (case hx => exact rfl); intro v hF; conv => whnf)
    | (revert hF; (refine mkS_nest (d := iN) ?_); intro x hF; conv => whnf)
    | ((refine take_step (d := iN) (by assumption) ?_); conv => whnf)
    | ((with_reducible have hG := setx_fact hF); clear hF; (refine put_row (d := iN) hG ?hn ?ho (fun q hl hF => ?_)); (case hn => first | exact rfl | assumption | omega); (case ho => (rintro p h; first | cases h; done | (cases h; rfl))); clear hG; conv => whnf)
    | ((refine nest_all (e := sl_iN) (d := iN) (fun _ => rfl) ?hn ?_); (case hn => first | exact rfl | assumption | omega); conv => whnf)
    | ((with_reducible first | refine k_blk_out ?hx ?_ | refine vc_condT ?hx ?_); (case hx => exact rfl))
    | (revert hF; (with_reducible refine idx1 ?hn ?_); (case hn => first | exact rfl | exact (List.length_map _) | assumption | omega | simp); intro x hx hF; conv => whnf)
    | ((with_reducible have hG := app_fact hF); clear hF; (first | ((refine app_row hG ?hn ?hs (fun q hF => ?_)); (case hn => first | exact rfl | assumption | omega); (case hs => exact rfl)) | ((refine app_nil (d := iN) hG ?hs (fun q hF => ?_)); (case hs => exact rfl)) | ((refine app_gen (d := iN) hG ?ho ?hn ?hs (fun q hF => ?_)); (case ho => exact rfl); (case hn => exact rfl); (case hs => exact rfl))); clear hG; conv => whnf)
    | ((refine row_all ?hn ?_); (case hn => first | exact rfl | (simp; done) | (simp; omega)); conv => whnf)
    | ((with_reducible refine le_step ?hn ?_); (case hn => first | exact rfl | assumption | omega); conv => whnf)
    | ((with_reducible have hG := setx_fact hF); clear hF; (refine setx_step hG ?hs (fun q hl hF => ?_)); (case hs => exact rfl); clear hG; conv => whnf)
    | ((refine ⟨?hx, ?_⟩); (case hx => exact ⟨rfl, Nat.le_of_ble_eq_true rfl, rfl⟩); conv => whnf)
    | ((with_reducible refine ex_step ?_); conv => whnf)
    | ((with_reducible have hG := chk_fact hF); clear hF; (refine ⟨?hx, ?_⟩); (case hx => (first | exact of_decide_eq_true hG.1 | exact hG.1)); have hF := hG.2; clear hG; conv => whnf)
    | ((with_reducible refine both_T ?hx ?_); (case hx => first | exact rfl | assumption | exact notT (by assumption)); conv => whnf)
    | ((with_reducible refine both_F ?hx ?_); (case hx => first | exact rfl | assumption | exact notF (by assumption)); conv => whnf)
    | (revert hF; (with_reducible refine ite_step ?_ ?_) <;> (intro hc hF; conv => whnf))
    | ((with_reducible refine vc_condF ?hx ?_); (case hx => exact rfl))
    | (show retD _ _ _ _ _ _; conv => whnf)
    | ((refine ⟨?hx, trivial⟩); (case hx => (cases hF; exact rfl)))
    | ((refine ⟨?hx, ?_⟩); (case hx => decide); conv => whnf)
    | with_reducible refine k_seq ?_
    | (have hF : (none : Option _) = some _ := hF; cases hF))
end
end Go.Vc
namespace Go.Vc
open Go.Proofs
set_option linter.unusedVariables false
set_option linter.unnecessarySimpa false
set_option linter.unusedSimpArgs false
section
variable {c : Ctx} {p nid : Nat} {a b : Code} {st : St} {K : Ex → St → Prop}
/- f40: tusche/tuschelaw01.ends -/
def f40_c7 (s5 : Int) : Option (Int) :=
 some (s5)
def Lf40_c7 : Lp (Int) Unit (Int) := lp0 ⟨[5], [], [], []⟩ (fun s5 => [.dat (iN s5)]) (fun _ => []) (fun s5 => f40_c7 s5)
theorem Ef40_c7 {s5} : (Lf40_c7).E s5 = f40_c7 s5 := rfl
def f40_3b (r3 : Int → Int → Option (Int)) (a0 : List (List Int)) (a1 : List Int) (k0 : Int → Option (Int)) (s5 : Int) (v10 : Int) : Option (Int) :=
 bif decide (v10 < (List.length a1 : Int)) then ((ix a1 v10).bind fun x1 =>
 (ix a0 s5).bind fun x2 =>
 (ix x2 x1).bind fun x3 =>
 r3 x3 (W (v10 + (1 : Int))))
 else (k0 s5)
def f40_3 (a0 : List (List Int)) (a1 : List Int) (k0 : Int → Option (Int)) : Nat → Int → Int → Option (Int)
  | 0, _, _ => none
  | n + 1, s5, v10 => f40_3b (f40_3 a0 a1 k0 n) a0 a1 k0 s5 v10
def Lf40_3 (a0 : List (List Int)) (a1 : List Int) (k0 : Int → Option (Int)) : Lp (Nat × Int × Int) Unit (Int) := lp0 ⟨[0, 5, 8, 9, 10], [], [], []⟩ (fun (_, s5, v10) => [.dat (sl_sl_iN a0), .dat (iN s5), .dat (sl_iN a1), .dat (iN (List.length a1 : Int)), .dat (iN v10)]) (fun (_, _, _) => []) (fun (n, s5, v10) => f40_3 a0 a1 k0 n s5 v10)
theorem Ef40_3 {a0 a1 k0 n s5 v10} : (Lf40_3 a0 a1 k0).E (n, s5, v10) = f40_3 a0 a1 k0 n s5 v10 := rfl
def f40 (N : Nat) (a0 : List (List Int)) (a1 : List Int) : Option (Int) :=
 joinK f40_c7 fun k0 =>
 f40_3 a0 a1 k0 N (0 : Int) (0 : Int)
def G40 (ds : List D) (d : D) : Prop := ∃ (N : Nat) (a0 : List (List Int)) (a1 : List Int) (r : Int), ds = [sl_sl_iN a0, sl_iN a1] ∧ f40 N a0 a1 = some r ∧ d = iN r
theorem G40.lend {N : Nat} {a0 : List (List Int)} {a1 : List Int} {ρ : Type} {A : Int → Option ρ} {q : ρ} {ds : List D} {K : D → Prop} (hd : ds = [sl_sl_iN a0, sl_iN a1]) (h : ∀ r, A r = some q → K (iN r)) (hF : (f40 N a0 a1).bind A = some q) : ∃ d, (G40 ds d ∧ d.flatB = true) ∧ K d := by
  obtain ⟨r, hr, hA⟩ := bind_some hF
  exact ⟨_, ⟨⟨N, a0, a1, r, hd, hr, rfl⟩, rfl⟩, h r hA⟩
theorem G40.step {N : Nat} {a0 : List (List Int)} {a1 : List Int} {ρ : Type} {A : Int → Option ρ} {q : ρ} {ds : List D} {K : D → Prop} (hd : ds = [sl_sl_iN a0, sl_iN a1]) (h : ∀ r, A r = some q → K (iN r)) (hF : (f40 N a0 a1).bind A = some q) : ∃ d, G40 ds d ∧ K d := by
  obtain ⟨r, hr, hA⟩ := bind_some hF
  exact ⟨_, ⟨N, a0, a1, r, hd, hr, rfl⟩, h r hA⟩
set_option maxRecDepth 20000 in
set_option maxHeartbeats 4000000 in
theorem P40 : PureOK Try.prog 40 G40 := by
  refine pure_of_vc (c := mkCtx tyTree []) rfl tyOK (ctx_nil) [[0]] 2 Try.func40 rfl rfl (by decide) (by kernel_rfl) ?_
  rintro ds d ⟨N, a0, a1, r, rfl, hF, rfl⟩ hok
  clear hok
  refine ⟨rfl, ?_⟩
  show vc _ _ _ _ ⟨[(0, .dat (sl_sl_iN a0)), (1, .dat (sl_iN a1))], []⟩ _
  unfold f40 at hF
  repeat' (first
    | ((with_reducible first | refine q0 _ _ ?_ | refine q1 _ _ _ _ ?_ | refine q2 _ _ _ ?_); clear Q q0 q1 q2)
    | ((with_reducible first | refine seq_op ?hx (fun Q q0 q1 q2 => ?_)); (case hx => exact rfl); conv => whnf)
    | ((with_reducible refine cond_id ?_); (first | ((refine condKT rfl ?hy ?_); (case hy => first | assumption | exact notT (by assumption) | exact rfl)) | ((refine condKF rfl ?hy ?_); (case hy => first | assumption | exact notF (by assumption) | exact rfl)) | (revert hF; (with_reducible refine condF ?hx ?_ ?_); (case hx => exact rfl); all_goals (intro hc hF))))
    | ((with_reducible refine seq_nil ?_); (first | ((with_reducible refine hR _ ?_); clear R hR) | ((with_reducible refine hL _ ?_); clear L hL)))
    | ((with_reducible first | refine int_step ?_ | refine len_step ?_ | refine idx2 (by assumption) ?_ | refine idx3 (by assumption) ?_); conv => whnf)
    | (with_reducible first | refine vc_block ?_ | refine vc_skip ?_ | refine vc_ret ?_ | refine vc_exit ?_ | refine vc_region (fun R hR => ?_) | refine k_seq_ret ?_ | refine k_seq_exit ?_ | refine k_blk ?_ | refine k_blk_ret ?_ | refine k_blk_here ?_ | refine k_loop_ret ?_ | refine k_loop_exit ?_)
    | ((with_reducible refine vc_seqN [7] ?hx ?_); (case hx => exact rfl))
    | (revert hF; (refine Lp.cut0 Lf40_c7 f40_c7 7 rfl rfl ?_ ?_); (intro hF); rotate_left; (rintro s5 hF; dsimp only [Lf40_c7] at hF; unfold f40_c7 at hF); rotate_right)
    | exact Lp.head Ef40_c7 hF () ⟨_, rfl, rfl, rfl, rfl⟩ rfl
    | (revert hF; (refine Lp.loop Ef40_3 () rfl ⟨_, rfl, rfl, rfl, rfl⟩ rfl (fun _ => rfl) ?_); rintro n ⟨s5, v10⟩ hF; dsimp only [Lf40_3, f40_3] at hF; unfold f40_3b at hF)
    | exact Lp.back Ef40_3 hF () ⟨_, rfl, rfl, rfl, rfl⟩ rfl
    | ((with_reducible first | refine k_blk_out ?hx ?_ | refine vc_condT ?hx ?_); (case hx => exact rfl))
    | (revert hF; (with_reducible refine idx1 ?hn ?_); (case hn => first | exact rfl | exact (List.length_map _) | assumption | omega | simp); intro x hx hF; conv => whnf)
    | ((refine row_all ?hn ?_); (case hn => first | exact rfl | (simp; done) | (simp; omega)); conv => whnf)
    | ((with_reducible refine le_step ?hn ?_); (case hn => first | exact rfl | assumption | omega); conv => whnf)
    | ((refine ⟨?hx, ?_⟩); (case hx => exact ⟨rfl, Nat.le_of_ble_eq_true rfl, rfl⟩); conv => whnf)
    | ((with_reducible refine ex_step ?_); conv => whnf)
    | ((with_reducible refine both_T ?hx ?_); (case hx => first | exact rfl | assumption | exact notT (by assumption)); conv => whnf)
    | ((with_reducible refine both_F ?hx ?_); (case hx => first | exact rfl | assumption | exact notF (by assumption)); conv => whnf)
    | (revert hF; (with_reducible refine ite_step ?_ ?_) <;> (intro hc hF; conv => whnf))
    | ((with_reducible refine vc_condF ?hx ?_); (case hx => exact rfl))
    | (show retD _ _ _ _ _ _; conv => whnf)
    | ((refine ⟨?hx, trivial⟩); (case hx => (cases hF; exact rfl)))
    | ((refine ⟨?hx, ?_⟩); (case hx => decide); conv => whnf)
    | with_reducible refine k_seq ?_
    | (have hF : (none : Option _) = some _ := hF; cases hF))
end
end Go.Vc
namespace Go.Vc
open Go.Proofs
set_option linter.unusedVariables false
set_option linter.unnecessarySimpa false
set_option linter.unusedSimpArgs false
section
variable {c : Ctx} {p nid : Nat} {a b : Code} {st : St} {K : Ex → St → Prop}
/- f8: tusche/tuschelaw01.SerialEdition -/
def f8_c40 : Option (Bool) :=
 some (false)
def Lf8_c40 : Lp (Unit) Unit (Bool) := lp0 ⟨[], [], [], []⟩ (fun _ => []) (fun _ => []) (fun _ => f8_c40)
theorem Ef8_c40 : (Lf8_c40).E () = f8_c40 := rfl
def f8_35b (r35 : Int → Option (Bool)) (N : Nat) (x2 : (List Int) × Int) (x12 : (List Int) × Int) (k0 : Option (Bool)) (v193 : Int) : Option (Bool) :=
 bif decide (v193 < (List.length x2.1 : Int)) then ((ix x2.1 v193).bind fun x14 =>
 (ix x12.1 v193).bind fun x15 =>
 bif decide (¬ x14 = x15) then ((ix x2.1 v193).bind fun x16 =>
 (ix x12.1 v193).bind fun x17 =>
 bif decide (x16 < x17) then ((f15 N ).bind fun x18 =>
 some (x18))
 else (some (false)))
 else (r35 (W (v193 + (1 : Int)))))
 else k0
def f8_35 (N : Nat) (x2 : (List Int) × Int) (x12 : (List Int) × Int) (k0 : Option (Bool)) : Nat → Int → Option (Bool)
  | 0, _ => none
  | n + 1, v193 => f8_35b (f8_35 N x2 x12 k0 n) N x2 x12 k0 v193
def Lf8_35 (N : Nat) (x2 : (List Int) × Int) (x12 : (List Int) × Int) (k0 : Option (Bool)) : Lp (Nat × Int) Unit (Bool) := lp0 ⟨[12, 25, 192, 193], [], [], []⟩ (fun (_, v193) => [.dat (sl_iN x2.1), .dat (sl_iN x12.1), .dat (iN (List.length x2.1 : Int)), .dat (iN v193)]) (fun (_, _) => []) (fun (n, v193) => f8_35 N x2 x12 k0 n v193)
theorem Ef8_35 {N x2 x12 k0 n v193} : (Lf8_35 N x2 x12 k0).E (n, v193) = f8_35 N x2 x12 k0 n v193 := rfl
def f8_c24 (a1 : Int) (a2 : Int) (N : Nat) (x1 : List (List Int)) (v9 : Int) (x2 : (List Int) × Int) (v14 : Int) : Option (Bool) :=
 (f37 N x1 x2.1).bind fun x3 =>
 (sub x2.1 0 (W ((W ((2 : Int) + (Int.tmod a1 (5 : Int)))) - (1 : Int)))).bind fun x4 =>
 (f23 N x1 x4).bind fun x5 =>
 (sub x2.1 0 (W ((W ((2 : Int) + (Int.tmod a1 (5 : Int)))) - (1 : Int)))).bind fun x6 =>
 (f21 N x1 x6).bind fun x7 =>
 bif decide (¬ v14 = (Int.tmod a2 v9)) then (some (false))
 else ((f40 N x1 x2.1).bind fun x8 =>
 bif decide (¬ x8 = (0 : Int)) then (some (false))
 else (bif decide (¬ x3.2 = (0 : Int)) then (some (false))
 else (bif decide (¬ x3.1 = (Int.tmod a2 v9)) then (some (false))
 else (bif decide (¬ x5.2 = (0 : Int)) then (some (false))
 else ((ix x2.1 (W ((W ((2 : Int) + (Int.tmod a1 (5 : Int)))) - (1 : Int)))).bind fun x9 =>
 bif decide (¬ x5.1 = x9) then (some (false))
 else (bif decide (¬ x7.2 = (0 : Int)) then (some (false))
 else ((sub x2.1 0 (W ((W ((2 : Int) + (Int.tmod a1 (5 : Int)))) - (1 : Int)))).bind fun x10 =>
 (f40 N x1 x10).bind fun x11 =>
 bif decide (¬ x7.1 = x11) then (some (false))
 else ((f35 N x1 (W ((2 : Int) + (Int.tmod a1 (5 : Int)))) (W ((Int.tmod a2 v9) + (1 : Int)))).bind fun x12 =>
 bif decide ((W ((Int.tmod a2 v9) + (1 : Int))) = v9) then (bif decide (x12.2 = (4 : Int)) then (bif decide ((List.length x12.1 : Int) = (0 : Int)) then ((f15 N ).bind fun x13 =>
 some (x13))
 else (some (false)))
 else (some (false)))
 else (bif decide (¬ x12.2 = (0 : Int)) then (some (false))
 else (bif decide (¬ (List.length x12.1 : Int) = (W ((2 : Int) + (Int.tmod a1 (5 : Int))))) then (some (false))
 else (joinK f8_c40 fun k0 =>
 f8_35 N x2 x12 k0 N (0 : Int))))))))))))
def Lf8_c24 (a1 : Int) (a2 : Int) (N : Nat) (x1 : List (List Int)) (v9 : Int) (x2 : (List Int) × Int) : Lp (Int) Unit (Bool) := lp0 ⟨[7, 8, 9, 11, 12, 14], [], [], []⟩ (fun v14 => [.dat (sl_sl_iN x1), .dat (iN (W ((2 : Int) + (Int.tmod a1 (5 : Int))))), .dat (iN v9), .dat (iN (Int.tmod a2 v9)), .dat (sl_iN x2.1), .dat (iN v14)]) (fun _ => []) (fun v14 => f8_c24 a1 a2 N x1 v9 x2 v14)
theorem Ef8_c24 {a1 a2 N x1 v9 x2 v14} : (Lf8_c24 a1 a2 N x1 v9 x2).E v14 = f8_c24 a1 a2 N x1 v9 x2 v14 := rfl
def f8_20b (r20 : Int → Int → Option (Bool)) (a1 : Int) (a2 : Int) (x1 : List (List Int)) (v9 : Int) (x2 : (List Int) × Int) (k1 : Int → Option (Bool)) (x19 : List Int) (v14 : Int) (v81 : Int) : Option (Bool) :=
 bif decide (v81 < (List.length x19 : Int)) then ((ix x19 v81).bind fun x20 =>
 r20 (W ((W (v14 * (List.length x1 : Int))) + x20)) (W (v81 + (1 : Int))))
 else (k1 v14)
def f8_20 (a1 : Int) (a2 : Int) (x1 : List (List Int)) (v9 : Int) (x2 : (List Int) × Int) (k1 : Int → Option (Bool)) (x19 : List Int) : Nat → Int → Int → Option (Bool)
  | 0, _, _ => none
  | n + 1, v14, v81 => f8_20b (f8_20 a1 a2 x1 v9 x2 k1 x19 n) a1 a2 x1 v9 x2 k1 x19 v14 v81
def Lf8_20 (a1 : Int) (a2 : Int) (x1 : List (List Int)) (v9 : Int) (x2 : (List Int) × Int) (k1 : Int → Option (Bool)) (x19 : List Int) : Lp (Nat × Int × Int) Unit (Bool) := lp0 ⟨[7, 8, 9, 11, 12, 14, 79, 80, 81], [], [], []⟩ (fun (_, v14, v81) => [.dat (sl_sl_iN x1), .dat (iN (W ((2 : Int) + (Int.tmod a1 (5 : Int))))), .dat (iN v9), .dat (iN (Int.tmod a2 v9)), .dat (sl_iN x2.1), .dat (iN v14), .dat (sl_iN x19), .dat (iN (List.length x19 : Int)), .dat (iN v81)]) (fun (_, _, _) => []) (fun (n, v14, v81) => f8_20 a1 a2 x1 v9 x2 k1 x19 n v14 v81)
theorem Ef8_20 {a1 a2 x1 v9 x2 k1 x19 n v14 v81} : (Lf8_20 a1 a2 x1 v9 x2 k1 x19).E (n, v14, v81) = f8_20 a1 a2 x1 v9 x2 k1 x19 n v14 v81 := rfl
def f8_c19 (a1 : Int) (a2 : Int) (N : Nat) (x1 : List (List Int)) (v9 : Int) (x2 : (List Int) × Int) : Option (Bool) :=
 joinK (f8_c24 a1 a2 N x1 v9 x2) fun k1 =>
 (sub x2.1 0 (W ((W ((2 : Int) + (Int.tmod a1 (5 : Int)))) - (1 : Int)))).bind fun x19 =>
 f8_20 a1 a2 x1 v9 x2 k1 x19 N (0 : Int) (0 : Int)
def Lf8_c19 (a1 : Int) (a2 : Int) (N : Nat) (x1 : List (List Int)) (v9 : Int) (x2 : (List Int) × Int) : Lp (Unit) Unit (Bool) := lp0 ⟨[7, 8, 9, 11, 12, 14], [], [], []⟩ (fun _ => [.dat (sl_sl_iN x1), .dat (iN (W ((2 : Int) + (Int.tmod a1 (5 : Int))))), .dat (iN v9), .dat (iN (Int.tmod a2 v9)), .dat (sl_iN x2.1), .dat (iN (0 : Int))]) (fun _ => []) (fun _ => f8_c19 a1 a2 N x1 v9 x2)
theorem Ef8_c19 {a1 a2 N x1 v9 x2} : (Lf8_c19 a1 a2 N x1 v9 x2).E () = f8_c19 a1 a2 N x1 v9 x2 := rfl
def f8_14b (r14 : Int → Option (Bool)) (a1 : Int) (a2 : Int) (x1 : List (List Int)) (v9 : Int) (x2 : (List Int) × Int) (k2 : Option (Bool)) (v63 : Int) : Option (Bool) :=
 bif decide (v63 < (List.length x2.1 : Int)) then ((ix x2.1 v63).bind fun x21 =>
 bif decide (x21 < (0 : Int)) then (some (false))
 else (bif decide ((List.length x1 : Int) ≤ x21) then (some (false))
 else (r14 (W (v63 + (1 : Int))))))
 else k2
def f8_14 (a1 : Int) (a2 : Int) (x1 : List (List Int)) (v9 : Int) (x2 : (List Int) × Int) (k2 : Option (Bool)) : Nat → Int → Option (Bool)
  | 0, _ => none
  | n + 1, v63 => f8_14b (f8_14 a1 a2 x1 v9 x2 k2 n) a1 a2 x1 v9 x2 k2 v63
def Lf8_14 (a1 : Int) (a2 : Int) (x1 : List (List Int)) (v9 : Int) (x2 : (List Int) × Int) (k2 : Option (Bool)) : Lp (Nat × Int) Unit (Bool) := lp0 ⟨[7, 8, 9, 11, 12, 14, 61, 62, 63], [], [], []⟩ (fun (_, v63) => [.dat (sl_sl_iN x1), .dat (iN (W ((2 : Int) + (Int.tmod a1 (5 : Int))))), .dat (iN v9), .dat (iN (Int.tmod a2 v9)), .dat (sl_iN x2.1), .dat (iN (0 : Int)), .dat (sl_iN x2.1), .dat (iN (List.length x2.1 : Int)), .dat (iN v63)]) (fun (_, _) => []) (fun (n, v63) => f8_14 a1 a2 x1 v9 x2 k2 n v63)
theorem Ef8_14 {a1 a2 x1 v9 x2 k2 n v63} : (Lf8_14 a1 a2 x1 v9 x2 k2).E (n, v63) = f8_14 a1 a2 x1 v9 x2 k2 n v63 := rfl
def f8_c8 (a1 : Int) (a2 : Int) (N : Nat) (x1 : List (List Int)) (v9 : Int) : Option (Bool) :=
 (chk (decide (v9 ≠ 0))).bind fun _ =>
 (f35 N x1 (W ((2 : Int) + (Int.tmod a1 (5 : Int)))) (Int.tmod a2 v9)).bind fun x2 =>
 bif decide (¬ x2.2 = (0 : Int)) then (some (false))
 else (bif decide (¬ (List.length x2.1 : Int) = (W ((2 : Int) + (Int.tmod a1 (5 : Int))))) then (some (false))
 else (joinK (f8_c19 a1 a2 N x1 v9 x2) fun k2 =>
 f8_14 a1 a2 x1 v9 x2 k2 N (0 : Int)))
def Lf8_c8 (a1 : Int) (a2 : Int) (N : Nat) (x1 : List (List Int)) : Lp (Int) Unit (Bool) := lp0 ⟨[2, 7, 8, 9], [], [], []⟩ (fun v9 => [.dat (u16N a2), .dat (sl_sl_iN x1), .dat (iN (W ((2 : Int) + (Int.tmod a1 (5 : Int))))), .dat (iN v9)]) (fun _ => []) (fun v9 => f8_c8 a1 a2 N x1 v9)
theorem Ef8_c8 {a1 a2 N x1 v9} : (Lf8_c8 a1 a2 N x1).E v9 = f8_c8 a1 a2 N x1 v9 := rfl
def f8_5b (r5 : Int → Int → Option (Bool)) (a1 : Int) (a2 : Int) (x1 : List (List Int)) (k3 : Int → Option (Bool)) (v9 : Int) (v10 : Int) : Option (Bool) :=
 bif decide (v10 < (W ((2 : Int) + (Int.tmod a1 (5 : Int))))) then (r5 (W (v9 * (List.length x1 : Int))) (W (v10 + (1 : Int))))
 else (k3 v9)
def f8_5 (a1 : Int) (a2 : Int) (x1 : List (List Int)) (k3 : Int → Option (Bool)) : Nat → Int → Int → Option (Bool)
  | 0, _, _ => none
  | n + 1, v9, v10 => f8_5b (f8_5 a1 a2 x1 k3 n) a1 a2 x1 k3 v9 v10
def Lf8_5 (a1 : Int) (a2 : Int) (x1 : List (List Int)) (k3 : Int → Option (Bool)) : Lp (Nat × Int × Int) Unit (Bool) := lp0 ⟨[2, 7, 8, 9, 10], [], [], []⟩ (fun (_, v9, v10) => [.dat (u16N a2), .dat (sl_sl_iN x1), .dat (iN (W ((2 : Int) + (Int.tmod a1 (5 : Int))))), .dat (iN v9), .dat (iN v10)]) (fun (_, _, _) => []) (fun (n, v9, v10) => f8_5 a1 a2 x1 k3 n v9 v10)
theorem Ef8_5 {a1 a2 x1 k3 n v9 v10} : (Lf8_5 a1 a2 x1 k3).E (n, v9, v10) = f8_5 a1 a2 x1 k3 n v9 v10 := rfl
def f8 (N : Nat) (a0 : Plate) (a1 : Int) (a2 : Int) : Option (Bool) :=
 (f39 N a0).bind fun x1 =>
 joinK (f8_c8 a1 a2 N x1) fun k3 =>
 f8_5 a1 a2 x1 k3 N (1 : Int) (1 : Int)
def G8 (ds : List D) (d : D) : Prop := ∃ (N : Nat) (a0 : Plate) (a1 : Int) (a2 : Int) (r : Bool), ds = [Plate.d a0, u8N a1, u16N a2] ∧ f8 N a0 a1 a2 = some r ∧ d = bN r
theorem G8.lend {N : Nat} {a0 : Plate} {a1 : Int} {a2 : Int} {ρ : Type} {A : Bool → Option ρ} {q : ρ} {ds : List D} {K : D → Prop} (hd : ds = [Plate.d a0, u8N a1, u16N a2]) (h : ∀ r, A r = some q → K (bN r)) (hF : (f8 N a0 a1 a2).bind A = some q) : ∃ d, (G8 ds d ∧ d.flatB = true) ∧ K d := by
  obtain ⟨r, hr, hA⟩ := bind_some hF
  exact ⟨_, ⟨⟨N, a0, a1, a2, r, hd, hr, rfl⟩, rfl⟩, h r hA⟩
theorem G8.step {N : Nat} {a0 : Plate} {a1 : Int} {a2 : Int} {ρ : Type} {A : Bool → Option ρ} {q : ρ} {ds : List D} {K : D → Prop} (hd : ds = [Plate.d a0, u8N a1, u16N a2]) (h : ∀ r, A r = some q → K (bN r)) (hF : (f8 N a0 a1 a2).bind A = some q) : ∃ d, G8 ds d ∧ K d := by
  obtain ⟨r, hr, hA⟩ := bind_some hF
  exact ⟨_, ⟨N, a0, a1, a2, r, hd, hr, rfl⟩, h r hA⟩
set_option maxRecDepth 20000 in
set_option maxHeartbeats 4000000 in
theorem P8 : PureOK Try.prog 8 G8 := by
  refine pure_of_vc (c := mkCtx tyTree [(40, true, lendPg [[1], [1]] G40), (39, true, purePg [[0, 0, 0, 0, 0, 0, 0, 0, 0, 0, 0, 0, 0, 0, 0, 0, 0]] G39), (37, true, lendPg [[1], [1]] G37), (35, true, purePg [[1], [0], [0]] G35), (23, true, lendPg [[1], [1]] G23), (21, true, lendPg [[1], [1]] G21), (15, true, lendPg [] G15)]) rfl tyOK (ctx_lend (callable Try.func40 rfl rfl) P40 (ctx_cons (callable Try.func39 rfl rfl) P39 (ctx_lend (callable Try.func37 rfl rfl) P37 (ctx_cons (callable Try.func35 rfl rfl) P35 (ctx_lend (callable Try.func23 rfl rfl) P23 (ctx_lend (callable Try.func21 rfl rfl) P21 (ctx_lend (callable Try.func15 rfl rfl) P15 (ctx_nil)))))))) [[0]] 3 Try.func8 rfl rfl (by decide) (by kernel_rfl) ?_
  rintro ds d ⟨N, a0, a1, a2, r, rfl, hF, rfl⟩ hok
  clear hok
  refine ⟨rfl, ?_⟩
  show vc _ _ _ _ ⟨[(0, .dat (Plate.d a0)), (1, .dat (u8N a1)), (2, .dat (u16N a2))], []⟩ _
  unfold f8 at hF
  repeat' (first
    | ((with_reducible first | refine q0 _ _ ?_ | refine q1 _ _ _ _ ?_ | refine q2 _ _ _ ?_); clear Q q0 q1 q2)
    | ((with_reducible first | refine seq_op ?hx (fun Q q0 q1 q2 => ?_) | refine draw_op ?hx (fun Q q0 q1 q2 => ?_)); (case hx => exact rfl); conv => whnf)
    | ((with_reducible first | refine seq_off ?hx ?_ | refine seq_off0 ?hx ?_ | refine draw_off ?hx ?_ | refine draw_off0 ?hx ?_ | refine k_blk_out ?hx ?_ | refine vc_condT ?hx ?_); (case hx => exact rfl))
    | ((with_reducible refine seq_id ?_); (first | ((first | refine seq_opK rfl ?hy (fun Q q0 q1 q2 => ?_) | refine seq_opK0 rfl ?hy (fun Q q0 q1 q2 => ?_)); (case hy => first | assumption | exact notT (by assumption) | exact rfl); conv => whnf) | ((first | refine seq_offK rfl ?hy ?_ | refine seq_offK0 rfl ?hy ?_); (case hy => first | assumption | exact notF (by assumption) | exact rfl)) | (revert hF; (with_reducible first | refine seq_opF ?hx ?_ ?_ | refine seq_opF0 ?hx ?_ ?_); (case hx => exact rfl); (intro hc hF Q q0 q1 q2; conv => whnf); rotate_left; (intro hc hF); rotate_right) | (revert hF; (with_reducible first | refine seq_opN ?hx ?_ ?_ | refine seq_opN0 ?hx ?_ ?_); (case hx => exact rfl); (intro hc hF); rotate_left; (intro hc hF Q q0 q1 q2; conv => whnf); rotate_right)))
    | ((with_reducible refine draw_id ?_); (first | ((first | refine draw_opK rfl ?hy (fun Q q0 q1 q2 => ?_) | refine draw_opK0 rfl ?hy (fun Q q0 q1 q2 => ?_)); (case hy => first | assumption | exact notT (by assumption) | exact rfl); conv => whnf) | ((first | refine draw_offK rfl ?hy ?_ | refine draw_offK0 rfl ?hy ?_); (case hy => first | assumption | exact notF (by assumption) | exact rfl)) | (revert hF; (with_reducible first | refine draw_opF ?hx ?_ ?_ | refine draw_opF0 ?hx ?_ ?_); (case hx => exact rfl); (intro hc hF Q q0 q1 q2; conv => whnf); rotate_left; (intro hc hF); rotate_right) | (revert hF; (with_reducible first | refine draw_opN ?hx ?_ ?_ | refine draw_opN0 ?hx ?_ ?_); (case hx => exact rfl); (intro hc hF); rotate_left; (intro hc hF Q q0 q1 q2; conv => whnf); rotate_right)))
    | ((with_reducible refine cond_id ?_); (first | ((refine condKT rfl ?hy ?_); (case hy => first | assumption | exact notT (by assumption) | exact rfl)) | ((refine condKF rfl ?hy ?_); (case hy => first | assumption | exact notF (by assumption) | exact rfl)) | (revert hF; (with_reducible refine condF ?hx ?_ ?_); (case hx => exact rfl); all_goals (intro hc hF))))
    | ((with_reducible refine seq_nil ?_); (first | ((with_reducible refine hR _ ?_); clear R hR) | ((with_reducible refine hL _ ?_); clear L hL)))
    | ((with_reducible refine draw_nil ?_); (with_reducible refine hR _ _ ?hx ?_); (case hx => kernel_rfl); (first | clear R hR | clear hR))
    | ((with_reducible first | refine int_step ?_ | refine len_step ?_ | refine idx2 (by assumption) ?_ | refine idx3 (by assumption) ?_); conv => whnf)
    | (with_reducible first | refine vc_block ?_ | refine vc_skip ?_ | refine vc_ret ?_ | refine vc_exit ?_ | refine vc_region (fun R hR => ?_) | refine k_seq_ret ?_ | refine k_seq_exit ?_ | refine k_blk ?_ | refine k_blk_ret ?_ | refine k_blk_here ?_ | refine k_loop_ret ?_ | refine k_loop_exit ?_)
    | ((with_reducible refine vc_seqN [40, 24, 19, 8] ?hx ?_); (case hx => exact rfl))
    | ((with_reducible refine vc_draw ?hx (fun R hR => ?_)); (case hx => exact rfl))
    | (revert hF; (refine Lp.cut0 Lf8_c40 f8_c40 40 rfl rfl ?_ ?_); (intro hF); rotate_left; (rintro _ hF; dsimp only [Lf8_c40] at hF; unfold f8_c40 at hF); rotate_right)
    | exact Lp.head Ef8_c40 hF () ⟨_, rfl, rfl, rfl, rfl⟩ rfl
    | (revert hF; (refine Lp.loop Ef8_35 () rfl ⟨_, rfl, rfl, rfl, rfl⟩ rfl (fun _ => rfl) ?_); rintro n v193 hF; dsimp only [Lf8_35, f8_35] at hF; unfold f8_35b at hF)
    | exact Lp.back Ef8_35 hF () ⟨_, rfl, rfl, rfl, rfl⟩ rfl
    | (revert hF; (refine Lp.cut6 Lf8_c24 f8_c24 24 rfl rfl ?_ ?_); (intro hF); rotate_left; (rintro v14 hF; dsimp only [Lf8_c24] at hF; unfold f8_c24 at hF); rotate_right)
    | exact Lp.head Ef8_c24 hF () ⟨_, rfl, rfl, rfl, rfl⟩ rfl
    | (revert hF; (refine Lp.loop Ef8_20 () rfl ⟨_, rfl, rfl, rfl, rfl⟩ rfl (fun _ => rfl) ?_); rintro n ⟨v14, v81⟩ hF; dsimp only [Lf8_20, f8_20] at hF; unfold f8_20b at hF)
    | exact Lp.back Ef8_20 hF () ⟨_, rfl, rfl, rfl, rfl⟩ rfl
    | (revert hF; (refine Lp.cut6 Lf8_c19 f8_c19 19 rfl rfl ?_ ?_); (intro hF); rotate_left; (rintro _ hF; dsimp only [Lf8_c19] at hF; unfold f8_c19 at hF); rotate_right)
    | exact Lp.head Ef8_c19 hF () ⟨_, rfl, rfl, rfl, rfl⟩ rfl
    | (revert hF; (refine Lp.loop Ef8_14 () rfl ⟨_, rfl, rfl, rfl, rfl⟩ rfl (fun _ => rfl) ?_); rintro n v63 hF; dsimp only [Lf8_14, f8_14] at hF; unfold f8_14b at hF)
    | exact Lp.back Ef8_14 hF () ⟨_, rfl, rfl, rfl, rfl⟩ rfl
    | (revert hF; (refine Lp.cut4 Lf8_c8 f8_c8 8 rfl rfl ?_ ?_); (intro hF); rotate_left; (rintro v9 hF; dsimp only [Lf8_c8] at hF; unfold f8_c8 at hF); rotate_right)
    | exact Lp.head Ef8_c8 hF () ⟨_, rfl, rfl, rfl, rfl⟩ rfl
    | (revert hF; (refine Lp.loop Ef8_5 () rfl ⟨_, rfl, rfl, rfl, rfl⟩ rfl (fun _ => rfl) ?_); rintro n ⟨v9, v10⟩ hF; dsimp only [Lf8_5, f8_5] at hF; unfold f8_5b at hF)
    | exact Lp.back Ef8_5 hF () ⟨_, rfl, rfl, rfl, rfl⟩ rfl
    | (revert hF; (with_reducible refine G15.lend ?hx ?_); (case hx => exact rfl); intro v hF; conv => whnf)
    | (revert hF; (with_reducible refine G21.lend ?hx ?_); (case hx => exact rfl); intro v hF; conv => whnf)
    | (revert hF; (with_reducible refine G23.lend ?hx ?_); (case hx => exact rfl); intro v hF; conv => whnf)
    | (revert hF; (with_reducible refine G35.step ?hx ?_); (case hx => exact rfl); intro v hF; conv => whnf)
    | (revert hF; (with_reducible refine G37.lend ?hx ?_); (case hx => exact rfl); intro v hF; conv => whnf)
    | (revert hF; (with_reducible refine G39.step ?hx ?_); (case hx => exact rfl); intro v hF; conv => whnf)
    | (revert hF; (with_reducible refine G40.lend ?hx ?_); (case hx => exact rfl); intro v hF; conv => whnf)
    | (revert hF; (with_reducible refine idx1 ?hn ?_); (case hn => first | exact rfl | exact (List.length_map _) | assumption | omega | simp); intro x hx hF; conv => whnf)
    | ((with_reducible have hG := sub_fact hF); clear hF; (refine sub_step hG (fun q hF => ?_)); clear hG; conv => whnf)
    | ((with_reducible refine Or.inr ?_); conv => whnf)
    | ((refine row_all ?hn ?_); (case hn => first | exact rfl | (simp; done) | (simp; omega)); conv => whnf)
    | ((with_reducible refine le_step ?hn ?_); (case hn => first | exact rfl | assumption | omega); conv => whnf)
    | ((refine ⟨?hx, ?_⟩); (case hx => exact ⟨rfl, Nat.le_of_ble_eq_true rfl, rfl⟩); conv => whnf)
    | ((with_reducible refine ex_step ?_); conv => whnf)
    | ((with_reducible have hG := chk_fact hF); clear hF; (refine ⟨?hx, ?_⟩); (case hx => (first | exact of_decide_eq_true hG.1 | exact hG.1)); have hF := hG.2; clear hG; conv => whnf)
    | ((with_reducible refine both_T ?hx ?_); (case hx => first | exact rfl | assumption | exact notT (by assumption)); conv => whnf)
    | ((with_reducible refine both_F ?hx ?_); (case hx => first | exact rfl | assumption | exact notF (by assumption)); conv => whnf)
    | (revert hF; (with_reducible refine ite_step ?_ ?_) <;> (intro hc hF; conv => whnf))
    | ((with_reducible refine vc_condF ?hx ?_); (case hx => exact rfl))
    | (show retD _ _ _ _ _ _; conv => whnf)
    | ((refine ⟨?hx, trivial⟩); (case hx => (cases hF; exact rfl)))
    | ((refine ⟨?hx, ?_⟩); (case hx => decide); conv => whnf)
    | with_reducible refine k_seq ?_
    | (have hF : (none : Option _) = some _ := hF; cases hF))
end
end Go.Vc
/-
  PLAIN LOOPS: loops that leave early, loops that gather.
-/
namespace Go.Vc
set_option linter.unusedVariables false
set_option linter.unnecessarySimpa false
set_option linter.unusedSimpArgs false
section
variable {α β σ : Type}
theorem iffD {α : Type} {p q : Prop} {dp : Decidable p} {dq : Decidable q} {a b : α} (h : p ↔ q) : @ite α p dp a b = @ite α q dq a b := by
  by_cases hp : p
  · rw [if_pos hp, if_pos (h.1 hp)]
  · rw [if_neg hp, if_neg fun hq => hp (h.2 hq)]
open Classical in
/-- a loop over indexes that leaves with 'e' at the first one that has a property -/
theorem loop_ex {F : Nat → Int → Option β} {k0 e : Option β} {p : Nat → Prop} (len : Nat)
    (hs : ∀ n i, i < len → F (n + 1) (i : Int) = if p i then e else F n ((i + 1 : Nat) : Int)) (he : ∀ n, F (n + 1) (len : Int) = k0) :
    ∀ n i, i ≤ len → len - i < n → F n (i : Int) = if (∃ j, i ≤ j ∧ j < len ∧ p j) then e else k0 := by
  intro n
  induction n with
  | zero => intro i _ h; omega
  | succ n ih =>
    intro i hi hn
    by_cases h : i = len
    · subst h
      rw [he, if_neg]
      rintro ⟨j, h1, h2, _⟩; omega
    · rw [hs n i (by omega)]
      by_cases hp : p i
      · rw [if_pos hp, if_pos ⟨i, Nat.le_refl _, by omega, hp⟩]
      · rw [if_neg hp, ih (i + 1) (by omega) (by omega)]
        by_cases hx : ∃ j, i + 1 ≤ j ∧ j < len ∧ p j
        · obtain ⟨j, h1, h2, h3⟩ := hx
          rw [if_pos ⟨j, h1, h2, h3⟩, if_pos ⟨j, by omega, h2, h3⟩]
        · rw [if_neg hx, if_neg]
          rintro ⟨j, h1, h2, h3⟩
          by_cases hj : j = i
          · subst hj; exact hp h3
          · exact hx ⟨j, by omega, h2, h3⟩
open Classical in
theorem loop_ex0 {F : Nat → Int → Option β} {k0 e : Option β} {p : Nat → Prop} (len : Nat)
    (hs : ∀ n i, i < len → F (n + 1) (i : Int) = if p i then e else F n ((i + 1 : Nat) : Int)) (he : ∀ n, F (n + 1) (len : Int) = k0) {n : Nat} (hn : len < n) :
    F n 0 = if (∃ j, j < len ∧ p j) then e else k0 := by
  have := loop_ex len hs he n 0 (by omega) (by omega)
  rw [show ((0 : Nat) : Int) = 0 from rfl] at this
  rw [this]
  by_cases h : ∃ j, j < len ∧ p j
  · obtain ⟨j, h1, h2⟩ := h
    rw [if_pos ⟨j, by omega, h1, h2⟩, if_pos ⟨j, h1, h2⟩]
  · rw [if_neg h, if_neg]
    rintro ⟨j, _, h1, h2⟩; exact h ⟨j, h1, h2⟩
/-- a loop over indexes that gathers, under an invariant -/
theorem loop_inv {F : Nat → σ → Int → Option β} {k : σ → Option β} (g : σ → Nat → σ) (Inv : Nat → σ → Prop) (len : Nat)
    (hs : ∀ n s i, i < len → Inv i s → F (n + 1) s (i : Int) = F n (g s i) ((i + 1 : Nat) : Int)) (hi : ∀ s i, i < len → Inv i s → Inv (i + 1) (g s i)) (he : ∀ n s, F (n + 1) s (len : Int) = k s) :
    ∀ n i s, i ≤ len → len - i < n → Inv i s → F n s (i : Int) = k ((List.range' i (len - i)).foldl g s) ∧ Inv len ((List.range' i (len - i)).foldl g s) := by
  intro n
  induction n with
  | zero => intro i s _ h; omega
  | succ n ih =>
    intro i s hl hn h0
    by_cases h : i = len
    · subst h
      rw [he, Nat.sub_self]; exact ⟨rfl, h0⟩
    · rw [hs n s i (by omega) h0]
      obtain ⟨h1, h2⟩ := ih (i + 1) (g s i) (by omega) (by omega) (hi s i (by omega) h0)
      rw [show len - i = (len - (i + 1)) + 1 by omega, List.range'_succ]
      exact ⟨h1, h2⟩
theorem loop_inv0 {F : Nat → σ → Int → Option β} {k : σ → Option β} (g : σ → Nat → σ) (Inv : Nat → σ → Prop) (len : Nat)
    (hs : ∀ n s i, i < len → Inv i s → F (n + 1) s (i : Int) = F n (g s i) ((i + 1 : Nat) : Int)) (hi : ∀ s i, i < len → Inv i s → Inv (i + 1) (g s i)) (he : ∀ n s, F (n + 1) s (len : Int) = k s)
    {n : Nat} {s : σ} (hn : len < n) (h0 : Inv 0 s) : F n s 0 = k ((List.range len).foldl g s) ∧ Inv len ((List.range len).foldl g s) := by
  have := loop_inv g Inv len hs hi he n 0 s (by omega) (by omega) h0
  rw [List.range_eq_range']
  simpa using this
/-- a loop that counts up without end till a property holds: a bound on its place is known -/
theorem loop_find {F : Nat → Int → Option β} {k : Nat → Option β} {p : Nat → Prop} (m : Nat) (hm : p m)
    (hs : ∀ n i, i ≤ m → ¬ p i → F (n + 1) (i : Int) = F n ((i + 1 : Nat) : Int)) (he : ∀ n i, i ≤ m → p i → F (n + 1) (i : Int) = k i) :
    ∀ n i, i ≤ m → m - i < n → ∃ j, i ≤ j ∧ j ≤ m ∧ p j ∧ (∀ q, i ≤ q → q < j → ¬ p q) ∧ F n (i : Int) = k j := by
  intro n
  induction n with
  | zero => intro i _ h; omega
  | succ n ih =>
    intro i hi hn
    by_cases h : p i
    · exact ⟨i, Nat.le_refl _, hi, h, fun q h1 h2 => by omega, he n i hi h⟩
    · have : i ≠ m := fun hh => h (hh ▸ hm)
      obtain ⟨j, h1, h2, h3, h4, h5⟩ := ih (i + 1) (by omega) (by omega)
      refine ⟨j, by omega, h2, h3, fun q h6 h7 => ?_, (hs n i hi h).trans h5⟩
      by_cases hq : q = i
      · subst hq; exact h
      · exact h4 q (by omega) h7
end
end Go.Vc
namespace Go.Vc
open Go.Proofs
set_option linter.unusedVariables false
set_option linter.unnecessarySimpa false
set_option linter.unusedSimpArgs false
def f57 (N : Nat) (a0 : Int) (a1 : Int) (a2 : Int) : Option (Bool) :=
 bif decide (a1 ≤ a0) then (some (decide (a0 ≤ a2)))
 else (some (false))
end Go.Vc
namespace Go.Vc
open Go.Proofs
set_option linter.unusedVariables false
set_option linter.unnecessarySimpa false
set_option linter.unusedSimpArgs false
def f17_c10 (n4 : Int) : Option (Int × Bool) :=
 some (n4, true)
def f17_5b (r5 : Int → Int → Option (Int × Bool)) (a0 : ByteArray) (k0 : Int → Option (Int × Bool)) (n4 : Int) (i5 : Int) : Option (Int × Bool) :=
 bif decide (i5 < (ByteArray.size a0 : Int)) then ((idxS a0 i5).bind fun x1 =>
 bif decide (x1 < (48 : Int)) then (some ((0 : Int), false))
 else ((idxS a0 i5).bind fun x2 =>
 bif decide ((57 : Int) < x2) then (some ((0 : Int), false))
 else ((idxS a0 i5).bind fun x3 =>
 r5 (W ((W ((10 : Int) * n4)) + (Wk .u8 (x3 - (48 : Int))))) (W (i5 + (1 : Int))))))
 else (k0 n4)
def f17_5 (a0 : ByteArray) (k0 : Int → Option (Int × Bool)) : Nat → Int → Int → Option (Int × Bool)
  | 0, _, _ => none
  | n + 1, n4, i5 => f17_5b (f17_5 a0 k0 n) a0 k0 n4 i5
def f17_c3 (a0 : ByteArray) (N : Nat) : Option (Int × Bool) :=
 joinK f17_c10 fun k0 =>
 f17_5 a0 k0 N (0 : Int) (0 : Int)
def f17 (N : Nat) (a0 : ByteArray) : Option (Int × Bool) :=
 joinK (f17_c3 a0 N) fun k1 =>
 (f57 N (ByteArray.size a0 : Int) (1 : Int) (8 : Int)).bind fun x4 =>
 bif !x4 then (some ((0 : Int), false))
 else ((idxS a0 (0 : Int)).bind fun x5 =>
 bif decide (x5 = (48 : Int)) then (bif decide ((1 : Int) < (ByteArray.size a0 : Int)) then (some ((0 : Int), false))
 else k1)
 else k1)
end Go.Vc
namespace Go.Vc
open Go.Proofs
set_option linter.unusedVariables false
set_option linter.unnecessarySimpa false
set_option linter.unusedSimpArgs false
def f19_c8 : Option (Bool) :=
 some (true)
def f19_4b (r4 : Int → Option (Bool)) (a0 : ByteArray) (k0 : Option (Bool)) (i3 : Int) : Option (Bool) :=
 bif decide (i3 < (ByteArray.size a0 : Int)) then ((idxS a0 i3).bind fun x2 =>
 bif decide (x2 < (97 : Int)) then (some (false))
 else ((idxS a0 i3).bind fun x3 =>
 bif decide ((122 : Int) < x3) then (some (false))
 else (r4 (W (i3 + (1 : Int))))))
 else k0
def f19_4 (a0 : ByteArray) (k0 : Option (Bool)) : Nat → Int → Option (Bool)
  | 0, _ => none
  | n + 1, i3 => f19_4b (f19_4 a0 k0 n) a0 k0 i3
def f19 (N : Nat) (a0 : ByteArray) : Option (Bool) :=
 (f57 N (ByteArray.size a0 : Int) (1 : Int) (9 : Int)).bind fun x1 =>
 bif !x1 then (some (false))
 else (joinK f19_c8 fun k0 =>
 f19_4 a0 k0 N (0 : Int))
end Go.Vc
namespace Go.Vc
open Go.Proofs
set_option linter.unusedVariables false
set_option linter.unnecessarySimpa false
set_option linter.unusedSimpArgs false
def f3 (N : Nat) (a0 : ByteArray) : Option (Bool) :=
 bif decide ((40 : Int) < (ByteArray.size a0 : Int)) then ((f15 N ).bind fun x1 =>
 some (x1))
 else ((f16 N a0).bind fun x2 =>
 (f17 N a0).bind fun x3 =>
 bif decide (x2.1 = x3.1) then (bif (x2.2 == x3.2) then ((f18 N a0).bind fun x4 =>
 (f19 N a0).bind fun x5 =>
 bif (x4 == x5) then ((f15 N ).bind fun x6 =>
 some (x6))
 else (some (false)))
 else (some (false)))
 else (some (false)))
end Go.Vc
/-
  PLAIN LAWS OF SERIAL, 1: names and values.
-/
namespace Go.Vc
set_option linter.unusedVariables false
set_option linter.unnecessarySimpa false
set_option linter.unusedSimpArgs false
set_option linter.unusedSimpArgs false

theorem iffC {α : Type} {p q : Prop} [Decidable p] [Decidable q] {a b : α} (h : p ↔ q) : (if p then a else b) = if q then a else b := by
  by_cases hp : p
  · rw [if_pos hp, if_pos (h.1 hp)]
  · rw [if_neg hp, if_neg fun hq => hp (h.2 hq)]
theorem f15_any (n : Nat) : f15 (n + 60) = some true := by kernel_rfl
theorem f57_eq {N : Nat} {a b c : Int} : f57 N a b c = some (decide (b ≤ a ∧ a ≤ c)) := by
  unfold f57
  by_cases h : b ≤ a <;> simp [h]
theorem f64_eq {N : Nat} {a b c : Int} : f64 N a b c = some (decide (a ≤ b ∧ b ≤ c)) := by
  unfold f64
  by_cases h : a ≤ b <;> simp [h]
theorem byteAt_nat (s : ByteArray) (i : Nat) (h : i < s.size) : byteAt s i = (s[i].toNat : Int) := (str_get s i h).2.symm
theorem rune_lo {s : ByteArray} {p : Nat} (h : p < s.size) (hb : byteAt s p < 128) : runeAt s p = (byteAt s p, p + 1) := by
  rw [byteAt_nat s p h] at hb ⊢
  unfold runeAt
  rw [decode_ascii s p h (by omega)]
theorem rune_hi {s : ByteArray} {p : Nat} (h : p < s.size) (hb : 128 ≤ byteAt s p) : 128 ≤ (runeAt s p).1 := by
  rw [byteAt_nat s p h] at hb
  have := (decode_high s p h (by omega)).1
  show (128 : Int) ≤ ((Utf8.decode s p).1 : Int)
  omega
theorem byteAt_rng (s : ByteArray) (i : Nat) : 0 ≤ byteAt s i ∧ byteAt s i ≤ 255 := by
  have := byteAt_in s i
  simpa [IntKind.min, IntKind.max, IntKind.signed, IntKind.bits] using this
theorem idxS_nat {s : ByteArray} {i : Nat} (h : i < s.size) : idxS s (i : Int) = some (byteAt s i) := by
  unfold idxS
  rw [if_pos ⟨by omega, by omega⟩]; rfl
/-- all bytes from a place on are between two numbers -/
def allFrom (lo hi : Int) (s : ByteArray) (p : Nat) : Prop := ∀ i, p ≤ i → i < s.size → lo ≤ byteAt s i ∧ byteAt s i ≤ hi
theorem allFrom_step {lo hi : Int} {s : ByteArray} {p : Nat} (h : p < s.size) : allFrom lo hi s p ↔ (lo ≤ byteAt s p ∧ byteAt s p ≤ hi) ∧ allFrom lo hi s (p + 1) := by
  constructor
  · intro ha
    exact ⟨ha p (Nat.le_refl _) h, fun i h1 h2 => ha i (by omega) h2⟩
  · rintro ⟨h1, h2⟩ i h3 h4
    by_cases he : i = p
    · subst he; exact h1
    · exact h2 i (by omega) h4
theorem allFrom_end {lo hi : Int} {s : ByteArray} {p : Nat} (h : s.size ≤ p) : allFrom lo hi s p := fun i h1 h2 => by omega
open Classical in
theorem f18_loop {s : ByteArray} {k0 : Option Bool} : ∀ (n p : Nat), s.size - p < n → p ≤ s.size → f18_2 s k0 n p = if allFrom 97 122 s p then k0 else some false := by
  intro n
  induction n with
  | zero => intro p h; omega
  | succ n ih =>
    intro p hn hp
    unfold f18_2 f18_2b
    by_cases h : p < s.size
    · simp only [h, decide_true, cond_true, Option.bind_some]
      rw [iffC (allFrom_step h)]
      by_cases hb : byteAt s p < 128
      · rw [rune_lo h hb]
        by_cases h1 : byteAt s p < 97
        · simp only [h1, decide_true, cond_true]
          rw [if_neg (by rintro ⟨⟨a, _⟩, _⟩; omega)]
        · simp only [h1, decide_false, cond_false]
          by_cases h2 : 122 < byteAt s p
          · simp only [h2, decide_true, cond_true]
            rw [if_neg (by rintro ⟨⟨_, a⟩, _⟩; omega)]
          · simp only [h2, decide_false, cond_false]
            rw [ih (p + 1) (by omega) (by omega)]
            refine iffC ?_
            exact ⟨fun h => ⟨⟨by omega, by omega⟩, h⟩, fun h => h.2⟩
      · have := rune_hi h (by omega)
        simp only [show ¬ (runeAt s p).1 < 97 by omega, show (122 : Int) < (runeAt s p).1 by omega, decide_false, decide_true, cond_false, cond_true]
        rw [if_neg (by rintro ⟨⟨_, a⟩, _⟩; omega)]
    · simp only [h, decide_false, cond_false]
      rw [if_pos (allFrom_end (by omega))]
open Classical in
theorem f19_loop {s : ByteArray} {k0 : Option Bool} (hsz : s.size ≤ 1000000) : ∀ (n p : Nat), s.size - p < n → p ≤ s.size → f19_4 s k0 n (p : Int) = if allFrom 97 122 s p then k0 else some false := by
  intro n
  induction n with
  | zero => intro p h; omega
  | succ n ih =>
    intro p hn hp
    unfold f19_4 f19_4b
    by_cases h : p < s.size
    · simp only [show (p : Int) < (s.size : Int) by omega, decide_true, cond_true, idxS_nat h, Option.bind_some]
      rw [iffC (allFrom_step h)]
      by_cases h1 : byteAt s p < 97
      · simp only [h1, decide_true, cond_true]
        rw [if_neg (by rintro ⟨⟨a, _⟩, _⟩; omega)]
      · simp only [h1, decide_false, cond_false]
        by_cases h2 : 122 < byteAt s p
        · simp only [h2, decide_true, cond_true]
          rw [if_neg (by rintro ⟨⟨_, a⟩, _⟩; omega)]
        · simp only [h2, decide_false, cond_false]
          rw [W_nat (by omega), ih (p + 1) (by omega) (by omega)]
          refine iffC ?_
          exact ⟨fun h => ⟨⟨by omega, by omega⟩, h⟩, fun h => h.2⟩
    · simp only [show ¬ (p : Int) < (s.size : Int) by omega, decide_false, cond_false]
      rw [if_pos (allFrom_end (by omega))]
theorem emptyS_iff {s : ByteArray} : s = emptyS ↔ s.size = 0 := by
  constructor
  · rintro rfl; rfl
  · intro h
    apply ByteArray.ext
    have : s.data.size = 0 := h
    exact Array.eq_empty_of_size_eq_zero this
open Classical in
/-- names -/
theorem names_eq {N : Nat} {s : ByteArray} (hs : s.size ≤ 40) (hN : 50 ≤ N) : ∃ b, f18 N s = some b ∧ f19 N s = some b := by
  refine ⟨decide (allFrom 97 122 s 0 ∧ 1 ≤ s.size ∧ s.size ≤ 9), ?_, ?_⟩
  · unfold f18; simp only [joinK]
    rw [f18_loop N 0 (by omega) (by omega)]
    unfold f18_c6
    by_cases h : allFrom 97 122 s 0
    · by_cases h0 : s = emptyS
      · have := emptyS_iff.1 h0
        simp [h, h0]; subst h0; simp [emptyS, ByteArray.size] 
      · have : s.size ≠ 0 := fun hh => h0 (emptyS_iff.2 hh)
        have h1 : 1 ≤ s.size := by omega
        simp [h, h0, h1]
        omega
    · simp [h]
  · unfold f19
    rw [f57_eq]
    simp only [Option.bind_some]
    by_cases h1 : 1 ≤ s.size ∧ s.size ≤ 9
    · rw [show decide ((1 : Int) ≤ (s.size : Int) ∧ (s.size : Int) ≤ 9) = true by simp; omega]
      simp only [Bool.not_true, cond_false]
      simp only [joinK]
      rw [show (0 : Int) = ((0 : Nat) : Int) from rfl, f19_loop (s := s) (by omega) N 0 (by omega) (by omega)]
      unfold f19_c8
      by_cases h : allFrom 97 122 s 0 <;> simp [h, h1]
    · rw [show decide ((1 : Int) ≤ (s.size : Int) ∧ (s.size : Int) ≤ 9) = false by simp; omega]
      simp only [Bool.not_false, cond_true]
      simp; omega
/-- the number that bytes from a place on stand for -/
def valFrom (s : ByteArray) : Nat → Nat → Int → Int
  | 0, _, n => n
  | m + 1, p, n => valFrom s m (p + 1) (10 * n + (byteAt s p - 48))
open Classical in
theorem f16_loop {s : ByteArray} {k0 : Int → Option (Int × Bool)} : ∀ (n p m : Nat) (v : Int), m < n → p + m = s.size → 0 ≤ v → v < 10 ^ (8 - m) → m ≤ 8 → f16_4 s k0 n v p = if allFrom 48 57 s p then k0 (valFrom s m p v) else some (0, false) := by
  intro n
  induction n with
  | zero => intro p m v h; omega
  | succ n ih =>
    intro p m v hn hp hv hv2 hm
    unfold f16_4 f16_4b
    by_cases h : p < s.size
    · obtain ⟨m, rfl⟩ : ∃ q, m = q + 1 := ⟨m - 1, by omega⟩
      simp only [h, decide_true, cond_true, Option.bind_some]
      rw [iffC (allFrom_step h)]
      by_cases hb : byteAt s p < 128
      · rw [rune_lo h hb]
        by_cases h1 : byteAt s p < 48
        · simp only [h1, decide_true, cond_true]
          rw [if_neg (by rintro ⟨⟨a, _⟩, _⟩; omega)]
        · simp only [h1, decide_false, cond_false]
          by_cases h2 : 57 < byteAt s p
          · simp only [h2, decide_true, cond_true]
            rw [if_neg (by rintro ⟨⟨_, a⟩, _⟩; omega)]
          · simp only [h2, decide_false, cond_false]
            have hp8 : (10 : Int) ^ (8 - m) = 10 * 10 ^ (8 - (m + 1)) := by
              rw [show 8 - m = (8 - (m + 1)) + 1 by omega, Int.pow_succ]; omega
            have hle : (10 : Int) ^ (8 - m) ≤ 10 ^ 8 := by
              have : (10 : Nat) ^ (8 - m) ≤ 10 ^ 8 := Nat.pow_le_pow_right (by omega) (by omega)
              exact_mod_cast this
            have e1 : Wk .i32 (byteAt s p - 48) = byteAt s p - 48 := Wk_of (by simp [IntKind.min, IntKind.max, IntKind.signed, IntKind.bits]; omega)
            rw [e1, W_of (n := 10 * v) (by omega) (by omega), W_of (by omega) (by omega), ih (p + 1) m _ (by omega) (by omega) (by omega) (by omega) (by omega)]
            refine iffC ?_
            exact ⟨fun h => ⟨⟨by omega, by omega⟩, h⟩, fun h => h.2⟩
      · have := rune_hi h (by omega)
        simp only [show ¬ (runeAt s p).1 < 48 by omega, show (57 : Int) < (runeAt s p).1 by omega, decide_false, decide_true, cond_false, cond_true]
        rw [if_neg (by rintro ⟨⟨_, a⟩, _⟩; omega)]
    · have : m = 0 := by omega
      subst this
      simp only [h, decide_false, cond_false]
      rw [if_pos (allFrom_end (by omega))]; rfl
open Classical in
theorem f17_loop {s : ByteArray} {k0 : Int → Option (Int × Bool)} : ∀ (n p m : Nat) (v : Int), m < n → p + m = s.size → 0 ≤ v → v < 10 ^ (8 - m) → m ≤ 8 → s.size ≤ 8 → f17_5 s k0 n v (p : Int) = if allFrom 48 57 s p then k0 (valFrom s m p v) else some (0, false) := by
  intro n
  induction n with
  | zero => intro p m v h; omega
  | succ n ih =>
    intro p m v hn hp hv hv2 hm hp8
    unfold f17_5 f17_5b
    by_cases h : p < s.size
    · obtain ⟨m, rfl⟩ : ∃ q, m = q + 1 := ⟨m - 1, by omega⟩
      simp only [show (p : Int) < (s.size : Int) by omega, decide_true, cond_true, idxS_nat h, Option.bind_some]
      rw [iffC (allFrom_step h)]
      by_cases h1 : byteAt s p < 48
      · simp only [h1, decide_true, cond_true]
        rw [if_neg (by rintro ⟨⟨a, _⟩, _⟩; omega)]
      · simp only [h1, decide_false, cond_false]
        by_cases h2 : 57 < byteAt s p
        · simp only [h2, decide_true, cond_true]
          rw [if_neg (by rintro ⟨⟨_, a⟩, _⟩; omega)]
        · simp only [h2, decide_false, cond_false]
          have hp8' : (10 : Int) ^ (8 - m) = 10 * 10 ^ (8 - (m + 1)) := by
            rw [show 8 - m = (8 - (m + 1)) + 1 by omega, Int.pow_succ]; omega
          have hle : (10 : Int) ^ (8 - m) ≤ 10 ^ 8 := by
            have : (10 : Nat) ^ (8 - m) ≤ 10 ^ 8 := Nat.pow_le_pow_right (by omega) (by omega)
            exact_mod_cast this
          have e1 : Wk .u8 (byteAt s p - 48) = byteAt s p - 48 := Wk_of (by simp [IntKind.min, IntKind.max, IntKind.signed, IntKind.bits]; omega)
          rw [e1, W_of (n := 10 * v) (by omega) (by omega), W_of (n := 10 * v + _) (by omega) (by omega), W_nat (by omega), ih (p + 1) m _ (by omega) (by omega) (by omega) (by omega) (by omega) hp8]
          refine iffC ?_
          exact ⟨fun h => ⟨⟨by omega, by omega⟩, h⟩, fun h => h.2⟩
    · have : m = 0 := by omega
      subst this
      simp only [show ¬ (p : Int) < (s.size : Int) by omega, decide_false, cond_false]
      rw [if_pos (allFrom_end (by omega))]; rfl
theorem strC_one {s : ByteArray} : s = strC [48] ↔ s.size = 1 ∧ byteAt s 0 = 48 := by
  constructor
  · rintro rfl; exact ⟨rfl, rfl⟩
  · rintro ⟨h1, h2⟩
    obtain ⟨⟨l⟩⟩ := s
    match l, h1 with
    | [b], _ =>
      have : b.toNat = 48 := by
        have : ((b.toNat : Nat) : Int) = 48 := h2
        omega
      have hb : b = 48 := UInt8.toNat_inj.1 this
      subst hb; rfl
open Classical in
theorem values_eq {N : Nat} {s : ByteArray} (hs : s.size ≤ 40) (hN : 50 ≤ N) : ∃ r, f16 N s = some r ∧ f17 N s = some r := by
  by_cases h0 : 1 ≤ s.size ∧ s.size ≤ 8
  · by_cases h1 : byteAt s 0 = 48 ∧ 1 < s.size
    · refine ⟨(0, false), ?_, ?_⟩
      · unfold f16; simp only [joinK]
        have e1 : ¬ s = emptyS := fun h => by have := emptyS_iff.1 h; omega
        have e2 : ¬ s = strC [48] := fun h => by have := (strC_one.1 h).1; omega
        simp only [e1, decide_false, cond_false, show ¬ (8 : Int) < (s.size : Int) by omega]
        rw [show (0 : Int) = ((0 : Nat) : Int) from rfl, idxS_nat (by omega)]
        simp [h1.1, e2]
      · unfold f17; simp only [joinK]
        rw [f57_eq, show decide ((1 : Int) ≤ (s.size : Int) ∧ (s.size : Int) ≤ 8) = true by simp; omega]
        simp only [Option.bind_some, Bool.not_true, cond_false]
        rw [show (0 : Int) = ((0 : Nat) : Int) from rfl, idxS_nat (by omega)]
        simp [h1.1, show (1 : Int) < (s.size : Int) by omega]
    · refine ⟨if allFrom 48 57 s 0 then (valFrom s s.size 0 0, true) else (0, false), ?_, ?_⟩
      · unfold f16; simp only [joinK]
        have e1 : ¬ s = emptyS := fun h => by have := emptyS_iff.1 h; omega
        simp only [e1, decide_false, cond_false, show ¬ (8 : Int) < (s.size : Int) by omega]
        rw [show (0 : Int) = ((0 : Nat) : Int) from rfl, idxS_nat (by omega)]
        simp only [Option.bind_some]
        have key : f16_c3 s N = some (if allFrom 48 57 s 0 then (valFrom s s.size 0 0, true) else (0, false)) := by
          unfold f16_c3; simp only [joinK]
          rw [f16_loop N 0 s.size 0 (by omega) (by omega) (by omega) (by
            have : (0 : Int) < 10 ^ (8 - s.size) := Int.pow_pos (by omega)
            exact this) (by omega)]
          unfold f16_c9
          split <;> rfl
        rw [key]
        by_cases h2 : byteAt s 0 = 48
        · have e2 : s = strC [48] := strC_one.2 ⟨by omega, h2⟩
          simp [h2, e2]
        · simp [h2]
      · unfold f17; simp only [joinK]
        rw [f57_eq, show decide ((1 : Int) ≤ (s.size : Int) ∧ (s.size : Int) ≤ 8) = true by simp; omega]
        simp only [Option.bind_some, Bool.not_true, cond_false]
        rw [show (0 : Int) = ((0 : Nat) : Int) from rfl, idxS_nat (by omega)]
        simp only [Option.bind_some]
        have key : f17_c3 s N = some (if allFrom 48 57 s 0 then (valFrom s s.size 0 0, true) else (0, false)) := by
          unfold f17_c3; simp only [joinK]
          have := f17_loop (s := s) (k0 := f17_c10) N 0 s.size 0 (by omega) (by omega) (by omega) (by
            have : (0 : Int) < 10 ^ (8 - s.size) := Int.pow_pos (by omega)
            exact this) (by omega) (by omega)
          rw [show ((0 : Nat) : Int) = 0 from rfl] at this
          rw [this]
          unfold f17_c10
          split <;> rfl
        rw [key]
        by_cases h2 : byteAt s 0 = 48
        · simp [h2, show ¬ (1 : Int) < (s.size : Int) by omega]
        · simp [h2]
  · refine ⟨(0, false), ?_, ?_⟩
    · unfold f16; simp only [joinK]
      by_cases e1 : s = emptyS
      · simp [e1]
      · have : s.size ≠ 0 := fun hh => e1 (emptyS_iff.2 hh)
        simp [e1, show (8 : Int) < (s.size : Int) by omega]
    · unfold f17; simp only [joinK]
      rw [f57_eq, show decide ((1 : Int) ≤ (s.size : Int) ∧ (s.size : Int) ≤ 8) = false by simp; omega]
      rfl
theorem f3_true {s : ByteArray} (N : Nat) : f3 (N + 60) s = some true := by
  unfold f3
  rw [f15_any]
  by_cases h : (40 : Int) < (s.size : Int)
  · simp [h]
  · obtain ⟨r, h1, h2⟩ := values_eq (N := N + 60) (s := s) (by omega) (by omega)
    obtain ⟨b, h3, h4⟩ := names_eq (N := N + 60) (s := s) (by omega) (by omega)
    rw [h1, h2, h3, h4]
    simp [h]
end Go.Vc
namespace Go.Vc
open Go.Proofs
set_option linter.unusedVariables false
set_option linter.unnecessarySimpa false
set_option linter.unusedSimpArgs false
def f20_c8 : Option (Bool) :=
 some (false)
def f20_4b (r4 : Int → Option (Bool)) (a0 : List (List Int)) (k0 : Option (Bool)) (i3 : Int) : Option (Bool) :=
 bif decide (i3 < (List.length a0 : Int)) then ((ix a0 i3).bind fun x1 =>
 bif decide ((20 : Int) < (List.length x1 : Int)) then (some (true))
 else (r4 (W (i3 + (1 : Int)))))
 else k0
def f20_4 (a0 : List (List Int)) (k0 : Option (Bool)) : Nat → Int → Option (Bool)
  | 0, _ => none
  | n + 1, i3 => f20_4b (f20_4 a0 k0 n) a0 k0 i3
def f20 (N : Nat) (a0 : List (List Int)) : Option (Bool) :=
 bif decide ((20 : Int) < (List.length a0 : Int)) then (some (true))
 else (joinK f20_c8 fun k0 =>
 f20_4 a0 k0 N (0 : Int))
end Go.Vc
namespace Go.Vc
open Go.Proofs
set_option linter.unusedVariables false
set_option linter.unnecessarySimpa false
set_option linter.unusedSimpArgs false
def f50_c27 : Option (Int) :=
 some ((0 : Int))
def f50_c18 (a0 : List (List Int)) (v6 : Int) (r17 : Int → Option (Int)) : Option (Int) :=
 r17 (W (v6 + (1 : Int)))
def f50_c21 (a0 : List (List Int)) (v6 : Int) (v7 : Int) (r20 : Int → Option (Int)) : Option (Int) :=
 r20 (W (v7 + (1 : Int)))
def f50_23b (r23 : Int → Option (Int)) (a0 : List (List Int)) (v6 : Int) (v7 : Int) (k2 : Option (Int)) (v8 : Int) : Option (Int) :=
 bif decide (v8 < v7) then ((ix a0 v6).bind fun x2 =>
 (ix x2 v7).bind fun x3 =>
 (ix a0 v6).bind fun x4 =>
 (ix x4 v8).bind fun x5 =>
 bif decide (x3 = x5) then (some ((6 : Int)))
 else ((ix a0 v7).bind fun x6 =>
 (ix x6 v6).bind fun x7 =>
 (ix a0 v8).bind fun x8 =>
 (ix x8 v6).bind fun x9 =>
 bif decide (x7 = x9) then (some ((6 : Int)))
 else (r23 (W (v8 + (1 : Int))))))
 else k2
def f50_23 (a0 : List (List Int)) (v6 : Int) (v7 : Int) (k2 : Option (Int)) : Nat → Int → Option (Int)
  | 0, _ => none
  | n + 1, v8 => f50_23b (f50_23 a0 v6 v7 k2 n) a0 v6 v7 k2 v8
def f50_20b (r20 : Int → Option (Int)) (a0 : List (List Int)) (N : Nat) (v6 : Int) (k1 : Option (Int)) (v7 : Int) : Option (Int) :=
 bif decide (v7 < (List.length a0 : Int)) then (joinK (f50_c21 a0 v6 v7 r20) fun k2 =>
 f50_23 a0 v6 v7 k2 N (0 : Int))
 else k1
def f50_20 (a0 : List (List Int)) (N : Nat) (v6 : Int) (k1 : Option (Int)) : Nat → Int → Option (Int)
  | 0, _ => none
  | n + 1, v7 => f50_20b (f50_20 a0 N v6 k1 n) a0 N v6 k1 v7
def f50_17b (r17 : Int → Option (Int)) (a0 : List (List Int)) (N : Nat) (k0 : Option (Int)) (v6 : Int) : Option (Int) :=
 bif decide (v6 < (List.length a0 : Int)) then (joinK (f50_c18 a0 v6 r17) fun k1 =>
 f50_20 a0 N v6 k1 N (0 : Int))
 else k0
def f50_17 (a0 : List (List Int)) (N : Nat) (k0 : Option (Int)) : Nat → Int → Option (Int)
  | 0, _ => none
  | n + 1, v6 => f50_17b (f50_17 a0 N k0 n) a0 N k0 v6
def f50_c16 (a0 : List (List Int)) (N : Nat) : Option (Int) :=
 joinK f50_c27 fun k0 =>
 f50_17 a0 N k0 N (0 : Int)
def f50_c10 (a0 : List (List Int)) (v4 : Int) (r9 : Int → Option (Int)) : Option (Int) :=
 r9 (W (v4 + (1 : Int)))
def f50_12b (r12 : Int → Option (Int)) (a0 : List (List Int)) (N : Nat) (v4 : Int) (k4 : Option (Int)) (v5 : Int) : Option (Int) :=
 bif decide (v5 < (List.length a0 : Int)) then ((ix a0 v4).bind fun x10 =>
 (ix x10 v5).bind fun x11 =>
 (f57 N x11 (0 : Int) (W ((List.length a0 : Int) - (1 : Int)))).bind fun x12 =>
 bif !x12 then (some ((4 : Int)))
 else (r12 (W (v5 + (1 : Int)))))
 else k4
def f50_12 (a0 : List (List Int)) (N : Nat) (v4 : Int) (k4 : Option (Int)) : Nat → Int → Option (Int)
  | 0, _ => none
  | n + 1, v5 => f50_12b (f50_12 a0 N v4 k4 n) a0 N v4 k4 v5
def f50_9b (r9 : Int → Option (Int)) (a0 : List (List Int)) (N : Nat) (k3 : Option (Int)) (v4 : Int) : Option (Int) :=
 bif decide (v4 < (List.length a0 : Int)) then (joinK (f50_c10 a0 v4 r9) fun k4 =>
 f50_12 a0 N v4 k4 N (0 : Int))
 else k3
def f50_9 (a0 : List (List Int)) (N : Nat) (k3 : Option (Int)) : Nat → Int → Option (Int)
  | 0, _ => none
  | n + 1, v4 => f50_9b (f50_9 a0 N k3 n) a0 N k3 v4
def f50_c8 (a0 : List (List Int)) (N : Nat) : Option (Int) :=
 joinK (f50_c16 a0 N) fun k3 =>
 f50_9 a0 N k3 N (0 : Int)
def f50_4b (r4 : Int → Option (Int)) (a0 : List (List Int)) (k5 : Option (Int)) (v3 : Int) : Option (Int) :=
 bif decide (v3 < (List.length a0 : Int)) then ((ix a0 v3).bind fun x13 =>
 bif decide (¬ (List.length x13 : Int) = (List.length a0 : Int)) then (some ((3 : Int)))
 else (r4 (W (v3 + (1 : Int)))))
 else k5
def f50_4 (a0 : List (List Int)) (k5 : Option (Int)) : Nat → Int → Option (Int)
  | 0, _ => none
  | n + 1, v3 => f50_4b (f50_4 a0 k5 n) a0 k5 v3
def f50 (N : Nat) (a0 : List (List Int)) : Option (Int) :=
 (f57 N (List.length a0 : Int) (2 : Int) (10 : Int)).bind fun x1 =>
 bif !x1 then (some ((3 : Int)))
 else (joinK (f50_c8 a0 N) fun k5 =>
 f50_4 a0 k5 N (0 : Int))
end Go.Vc
/-
  PLAIN LAWS OF SERIAL, 2: tables that are not large; what a check of a table answers.
-/
namespace Go.Vc
set_option linter.unusedVariables false
set_option linter.unnecessarySimpa false
set_option linter.unusedSimpArgs false
set_option linter.unusedSimpArgs false
open Classical in
/-- a table of at most 20 rows of 20 -/
def Small (t : List (List Int)) : Prop := t.length ≤ 20 ∧ ∀ r, r ∈ t → r.length ≤ 20
theorem f20_eq {N : Nat} {t : List (List Int)} (hN : 30 ≤ N) : ∃ b, f20 N t = some b ∧ (b = false → Small t) := by
  unfold f20
  by_cases h : 20 < (t.length : Int)
  · exact ⟨true, by simp [h], by simp⟩
  · simp only [h, decide_false, cond_false, joinK]
    rw [loop_ex0 (F := f20_4 t f20_c8) (k0 := f20_c8) (e := some true) (p := fun i => ∃ r, t[i]? = some r ∧ 20 < r.length) t.length]
    · by_cases hx : ∃ j, j < t.length ∧ ∃ r, t[j]? = some r ∧ 20 < r.length
      · exact ⟨true, by rw [if_pos hx], by simp⟩
      · refine ⟨false, by rw [if_neg hx]; rfl, fun _ => ⟨by omega, fun r hr => ?_⟩⟩
        obtain ⟨i, hi⟩ := List.mem_iff_getElem?.1 hr
        by_cases hh : 20 < r.length
        · exact absurd ⟨i, (List.getElem?_eq_some_iff.1 hi).1, r, hi, hh⟩ hx
        · omega
    · intro n i hi
      obtain ⟨r, hr⟩ : ∃ r, t[i]? = some r := ⟨t[i], by simp [hi]⟩
      conv => lhs; unfold f20_4 f20_4b
      simp only [show (i : Int) < (t.length : Int) by omega, decide_true, cond_true, ix_nat, hr, Option.bind_some]
      rw [W_nat (by omega)]
      by_cases hh : 20 < r.length
      · rw [if_pos ⟨r, rfl, hh⟩]; simp [show (20 : Int) < (r.length : Int) by omega]
      · rw [if_neg (by rintro ⟨q, hq, h2⟩; cases hq; exact hh h2)]; simp [show ¬ (20 : Int) < (r.length : Int) by omega]
    · intro n; unfold f20_4 f20_4b; simp
    · omega
/-- an entry of a table -/
def row (t : List (List Int)) (i : Nat) : List Int := t.getD i []
def en (t : List (List Int)) (i j : Nat) : Int := (row t i).getD j 0
theorem row_get {t : List (List Int)} {i : Nat} (h : i < t.length) : t[i]? = some (row t i) := by
  simp [row, h]
theorem row_mem {t : List (List Int)} {i : Nat} (h : i < t.length) : row t i ∈ t := by
  simp [row, h]
theorem ix_row {t : List (List Int)} {i : Nat} (h : i < t.length) : ix t (i : Int) = some (row t i) := by rw [ix_nat, row_get h]
theorem ix_en {t : List (List Int)} {i j : Nat} (h : j < (row t i).length) : ix (row t i) (j : Int) = some (en t i j) := by
  rw [ix_nat]; simp [en, h]
open Classical in
noncomputable def chkT (t : List (List Int)) : Int :=
  if ¬ (2 ≤ t.length ∧ t.length ≤ 10) then 3
  else if ∃ i, i < t.length ∧ (row t i).length ≠ t.length then 3
  else if ∃ i, i < t.length ∧ ∃ j, j < t.length ∧ ¬ (0 ≤ en t i j ∧ en t i j < t.length) then 4
  else if ∃ i, i < t.length ∧ ∃ j, j < t.length ∧ ∃ k, k < j ∧ (en t i j = en t i k ∨ en t j i = en t k i) then 6
  else 0
theorem W_sub1 {n : Nat} (h : n ≤ 1000000) : W ((n : Int) - (1 : Int)) = (n : Int) - 1 := W_of (by omega) (by omega)
open Classical in
theorem f50_eq {N : Nat} {t : List (List Int)} (hs : t.length ≤ 20) (hN : 30 ≤ N) : f50 N t = some (chkT t) := by
  unfold f50 chkT
  rw [f57_eq]
  simp only [Option.bind_some]
  by_cases h1 : 2 ≤ t.length ∧ t.length ≤ 10
  · rw [if_neg (by simp [h1]), show decide ((2 : Int) ≤ (t.length : Int) ∧ (t.length : Int) ≤ 10) = true by simp; omega]
    simp only [Bool.not_true, cond_false, joinK]
    rw [loop_ex0 (F := f50_4 t (f50_c8 t N)) (e := some 3) (k0 := f50_c8 t N) (p := fun i => (row t i).length ≠ t.length) t.length]
    · by_cases h2 : ∃ i, i < t.length ∧ (row t i).length ≠ t.length
      · rw [if_pos h2, if_pos h2]
      · rw [if_neg h2, if_neg h2]
        have hl : ∀ i, i < t.length → (row t i).length = t.length := fun i hi => by
          by_cases hh : (row t i).length = t.length
          · exact hh
          · exact absurd ⟨i, hi, hh⟩ h2
        unfold f50_c8
        simp only [joinK]
        rw [loop_ex0 (F := f50_9 t N (f50_c16 t N)) (e := some 4) (k0 := f50_c16 t N) (p := fun i => ∃ j, j < t.length ∧ ¬ (0 ≤ en t i j ∧ en t i j < t.length)) t.length]
        · by_cases h3 : ∃ i, i < t.length ∧ ∃ j, j < t.length ∧ ¬ (0 ≤ en t i j ∧ en t i j < t.length)
          · rw [if_pos h3, if_pos h3]
          · rw [if_neg h3, if_neg h3]
            unfold f50_c16
            simp only [joinK]
            rw [loop_ex0 (F := f50_17 t N f50_c27) (e := some 6) (k0 := f50_c27) (p := fun i => ∃ j, j < t.length ∧ ∃ k, k < j ∧ (en t i j = en t i k ∨ en t j i = en t k i)) t.length]
            · split <;> rfl
            · intro n i hi
              conv => lhs; unfold f50_17 f50_17b
              simp only [show (i : Int) < (t.length : Int) by omega, decide_true, cond_true, joinK]
              refine (loop_ex0 (e := some 6) (k0 := f50_c18 t (i : Int) (f50_17 t N f50_c27 n)) (p := fun j => ∃ k, k < j ∧ (en t i j = en t i k ∨ en t j i = en t k i)) t.length ?_ ?_ ?_).trans ?_
              · intro m j hj
                conv => lhs; unfold f50_20 f50_20b
                simp only [show (j : Int) < (t.length : Int) by omega, decide_true, cond_true, joinK]
                refine (loop_ex0 (e := some 6) (k0 := f50_c21 t (i : Int) (j : Int) (f50_20 t N (i : Int) (f50_c18 t (i : Int) (f50_17 t N f50_c27 n)) m)) (p := fun k => (en t i j = en t i k ∨ en t j i = en t k i)) j ?_ ?_ ?_).trans ?_
                · intro q k hk
                  conv => lhs; unfold f50_23 f50_23b
                  simp only [show (k : Int) < (j : Int) by omega, decide_true, cond_true, ix_row (show i < t.length from hi), ix_row (show j < t.length from hj), ix_row (show k < t.length by omega), Option.bind_some,
                    ix_en (t := t) (i := i) (j := j) (by rw [hl _ hi]; exact hj), ix_en (t := t) (i := i) (j := k) (by rw [hl _ hi]; omega), ix_en (t := t) (i := j) (j := i) (by rw [hl _ hj]; exact hi), ix_en (t := t) (i := k) (j := i) (by rw [hl _ (by omega)]; exact hi)]
                  rw [W_nat (by omega)]
                  by_cases e1 : en t i j = en t i k
                  · simp [e1]
                  · by_cases e2 : en t j i = en t k i
                    · simp [e1, e2]
                    · simp [e1, e2]
                · intro q; unfold f50_23 f50_23b; simp
                · omega
                · unfold f50_c21; rw [W_nat (by omega)]; exact iffD Iff.rfl
              · intro m; unfold f50_20 f50_20b; simp
              · omega
              · unfold f50_c18; rw [W_nat (by omega)]; exact iffD Iff.rfl
            · intro n; unfold f50_17 f50_17b; simp
            · omega
        · intro n i hi
          conv => lhs; unfold f50_9 f50_9b
          simp only [show (i : Int) < (t.length : Int) by omega, decide_true, cond_true, joinK]
          refine (loop_ex0 (e := some 4) (k0 := f50_c10 t (i : Int) (f50_9 t N (f50_c16 t N) n)) (p := fun j => ¬ (0 ≤ en t i j ∧ en t i j < t.length)) t.length ?_ ?_ ?_).trans ?_
          · intro m j hj
            conv => lhs; unfold f50_12 f50_12b
            simp only [show (j : Int) < (t.length : Int) by omega, decide_true, cond_true, ix_row (show i < t.length from hi), Option.bind_some, ix_en (t := t) (i := i) (j := j) (by rw [hl _ hi]; exact hj), f57_eq, W_sub1 (show t.length ≤ 1000000 by omega)]
            rw [W_nat (by omega)]
            by_cases e1 : 0 ≤ en t i j ∧ en t i j < t.length
            · rw [if_neg (by simp [e1]), show decide (0 ≤ en t i j ∧ en t i j ≤ (t.length : Int) - 1) = true by simp; omega]; rfl
            · rw [if_pos e1, show decide (0 ≤ en t i j ∧ en t i j ≤ (t.length : Int) - 1) = false by simp; omega]; rfl
          · intro m; unfold f50_12 f50_12b; simp
          · omega
          · unfold f50_c10; rw [W_nat (by omega)]; exact iffD Iff.rfl
        · intro n; unfold f50_9 f50_9b; simp
        · omega
    · intro n i hi
      conv => lhs; unfold f50_4 f50_4b
      simp only [show (i : Int) < (t.length : Int) by omega, decide_true, cond_true, ix_row (show i < t.length from hi), Option.bind_some]
      rw [W_nat (by omega)]
      by_cases e1 : (row t i).length = t.length
      · simp [e1]
      · simp [e1, show ¬ ((row t i).length : Int) = (t.length : Int) by omega]
    · intro n; unfold f50_4 f50_4b; simp
    · omega
  · rw [if_pos (by simpa using h1), show decide ((2 : Int) ≤ (t.length : Int) ∧ (t.length : Int) ≤ 10) = false by simp; omega]
    rfl
end Go.Vc
/-
  PLAIN LAWS OF SERIAL, 3: the check of a table, as the program does it.
-/
namespace Go.Vc
set_option linter.unusedVariables false
set_option linter.unnecessarySimpa false
set_option linter.unusedSimpArgs false
set_option linter.unusedSimpArgs false
theorem take_flat {t : List (List Int)} {i : Nat} (h : i < t.length) : (t.take (i + 1)).flatten = (t.take i).flatten ++ row t i := by
  rw [List.take_add_one, row_get h]; simp
theorem row_le {t : List (List Int)} {m i : Nat} (hr : ∀ r, r ∈ t → r.length ≤ m) (h : i < t.length) : (row t i).length ≤ m := hr _ (row_mem h)
theorem f83_eq {N : Nat} {t : List (List Int)} (hs : Small t) (hN : 30 ≤ N) : f83 N t = some t.flatten := by
  obtain ⟨hs, hr⟩ := hs
  unfold f83
  simp only [joinK]
  obtain ⟨h1, h2⟩ := loop_inv0 (F := f83_3 t (f83_c9 t N)) (k := f83_c9 t N) (fun (s : Int) i => s + ((row t i).length : Int)) (fun i s => 0 ≤ s ∧ s ≤ 20 * i) t.length (by
      intro n s i hi h
      conv => lhs; unfold f83_3 f83_3b
      have := row_le hr hi
      have hw : W (s + ((row t i).length : Int)) = s + ((row t i).length : Int) := W_of (by omega) (by omega)
      simp only [show (i : Int) < (t.length : Int) by omega, decide_true, cond_true, ix_row hi, Option.bind_some, hw, show ¬ s + ((row t i).length : Int) < 0 by omega, decide_false, cond_false]
      rw [W_nat (by omega)]) (by
      intro s i hi h
      have := row_le hr hi
      omega) (by intro n s; (conv => lhs; unfold f83_3 f83_3b); simp) (n := N) (s := 0) (by omega) ⟨by omega, by omega⟩
  rw [h1]
  generalize (List.range t.length).foldl (fun (s : Int) i => s + ((row t i).length : Int)) 0 = z at h2
  have hk : f83_c10 t N [] = some t.flatten := by
    unfold f83_c10
    simp only [joinK]
    obtain ⟨h3, h4⟩ := loop_inv0 (F := f83_11 t f83_c15) (k := f83_c15) (fun (s : List Int) i => s ++ row t i) (fun i s => s = (t.take i).flatten ∧ s.length ≤ 20 * i) t.length (by
      intro n s i hi h
      conv => lhs; unfold f83_11 f83_11b
      have := row_le hr hi
      simp only [show (i : Int) < (t.length : Int) by omega, decide_true, cond_true, ix_row hi, Option.bind_some]
      rw [app_ok (by omega) (by omega)]
      simp only [Option.bind_some]
      rw [W_nat (by omega)]) (by
      intro s i hi h
      have := row_le hr hi
      exact ⟨by rw [h.1, take_flat hi], by simp; omega⟩) (by intro n s; (conv => lhs; unfold f83_11 f83_11b); simp) (n := N) (s := []) (by omega) ⟨by simp, by simp⟩
    rw [h3, h4.1, List.take_length]; rfl
  unfold f83_c9
  simp only [joinK]
  rw [show decide (z < 0) = false by simp; omega]
  simp only [cond_false]
  rw [show W (z - W (0 - 0)) = z by
    rw [show W ((0 : Int) - 0) = 0 from rfl, Int.sub_zero]; exact W_of (by omega) (by omega)]
  by_cases h0 : 0 < z
  · simp only [h0, decide_true, cond_true]
    unfold mkA
    rw [if_pos ⟨by omega, by omega⟩]
    simp only [Option.bind_some]
    rw [show subR (List.replicate z.toNat (0 : Int)) 0 0 = some [] by
      unfold subR sub
      rw [if_pos ⟨by omega, by omega, by omega⟩]; simp]
    exact hk
  · simp only [h0, decide_false, cond_false]
    exact hk
open Classical in
/-- what has been seen -/
def Seen (b : List Bool) (f : Nat → Int) (i : Nat) : Prop := b.length = 10 ∧ ∀ x : Nat, x < 10 → (b[x]? = some true ↔ ∃ j, j < i ∧ f j = (x : Int)) 
theorem Seen.zero {f : Nat → Int} : Seen (List.replicate 10 false) f 0 :=
  ⟨by simp, fun x hx => by rw [List.getElem?_replicate, if_pos hx]; exact ⟨fun h => (by cases h), fun ⟨j, h, _⟩ => by omega⟩⟩
theorem Seen.get {b : List Bool} {f : Nat → Int} {i : Nat} (h : Seen b f i) {x : Int} (h0 : 0 ≤ x) (h1 : x < 10) : ∃ v, ixN b x.toNat = some v ∧ (v = true ↔ ∃ j, j < i ∧ f j = x) := by
  obtain ⟨hl, hb⟩ := h
  refine ⟨b[x.toNat]'(by omega), by simp [ixN, show x.toNat < b.length by omega], ?_⟩
  have := hb x.toNat (by omega)
  rw [List.getElem?_eq_getElem (by omega)] at this
  rw [show ((x.toNat : Nat) : Int) = x by omega] at this
  rw [← this]; simp
theorem Seen.set {b : List Bool} {f : Nat → Int} {i : Nat} (h : Seen b f i) {x : Int} (h0 : 0 ≤ x) (h1 : x < 10) (hx : f i = x) : ∃ b', setN b x.toNat true = some b' ∧ Seen b' f (i + 1) := by
  obtain ⟨hl, hb⟩ := h
  refine ⟨b.set x.toNat true, by simp [setN, show x.toNat < b.length by omega], by simp [hl], fun y hy => ?_⟩
  rw [List.getElem?_set]
  by_cases e : x.toNat = y
  · rw [if_pos e, if_pos (by omega)]
    exact ⟨fun _ => ⟨i, by omega, by omega⟩, fun _ => rfl⟩
  · rw [if_neg e, hb y hy]
    constructor
    · rintro ⟨j, h2, h3⟩; exact ⟨j, by omega, h3⟩
    · rintro ⟨j, h2, h3⟩
      by_cases hj : j = i
      · subst hj; omega
      · exact ⟨j, by omega, h3⟩
/-- a table whose rows have its length, of numbers below it -/
structure Sq (t : List (List Int)) : Prop where
  hi : t.length ≤ 10
  len : ∀ i, i < t.length → (row t i).length = t.length
  lo : ∀ i j, i < t.length → j < t.length → 0 ≤ en t i j ∧ en t i j < t.length
theorem chkI_ok {n : Nat} {x : Int} (h : 0 ≤ x) (h' : x < n) : chkI n x = some () := by simp [chkI, h, h']
theorem Sq.ix {t : List (List Int)} (h : Sq t) {i j : Nat} (hi : i < t.length) (hj : j < t.length) : Vc.ix (row t i) (j : Int) = some (en t i j) := ix_en (by rw [h.len i hi]; exact hj)
open Classical in
theorem f85_in {N : Nat} {t : List (List Int)} (hq : Sq t) {k0 k1 : Bool → Option Bool} {v : Nat} (hv : v < t.length) : ∀ n i a b, i ≤ t.length → t.length - i < n → Seen a (en t v) i → Seen b (fun j => en t j v) i →
    f85_7 t k0 (v : Int) k1 n false (i : Int) a b = if ∃ j, i ≤ j ∧ j < t.length ∧ ∃ k, k < j ∧ (en t v j = en t v k ∨ en t j v = en t k v) then k0 true else k1 false := by
  intro n
  induction n with
  | zero => intro i a b _ h; omega
  | succ n ih =>
    intro i a b hi hn ha hb
    have hlen := hq.hi
    conv => lhs; unfold f85_7 f85_7b
    by_cases h : i = t.length
    · subst h
      simp only [Int.lt_irrefl, decide_false, cond_false]
      rw [if_neg]
      rintro ⟨j, h1, h2, _⟩; omega
    · have hi : i < t.length := by omega
      have hn1 : t.length - (i + 1) < n := by omega
      have hw : W ((i : Int) + 1) = ((i + 1 : Nat) : Int) := W_nat (by omega)
      have r1 := hq.lo v i hv hi
      have r2 := hq.lo i v hi hv
      simp only [show (i : Int) < (t.length : Int) by omega, decide_true, cond_true, ix_row hv, ix_row hi, Option.bind_some, hq.ix hv hi, hq.ix hi hv, chkI_ok (n := 10) r1.1 (by omega), chkI_ok (n := 10) r2.1 (by omega)]
      obtain ⟨x, hx, hx2⟩ := ha.get r1.1 (by omega)
      obtain ⟨y, hy, hy2⟩ := hb.get r2.1 (by omega)
      rw [hx, hy]
      simp only [Option.bind_some]
      cases x with
      | true =>
        obtain ⟨k, h1, h2⟩ := hx2.1 rfl
        simp only [cond_true]
        rw [if_pos ⟨i, Nat.le_refl _, hi, k, h1, .inl h2.symm⟩]
      | false =>
        simp only [cond_false]
        cases y with
        | true =>
          obtain ⟨k, h1, h2⟩ := hy2.1 rfl
          simp only [cond_true]
          rw [if_pos ⟨i, Nat.le_refl _, hi, k, h1, .inr h2.symm⟩]
        | false =>
          simp only [cond_false]
          obtain ⟨a', ha1, ha2⟩ := ha.set r1.1 (by omega) rfl
          obtain ⟨b', hb1, hb2⟩ := hb.set r2.1 (by omega) rfl
          rw [ha1]
          simp only [Option.bind_some]
          rw [hb1]
          simp only [Option.bind_some]
          rw [hw, ih (i + 1) a' b' hi hn1 ha2 hb2]
          refine iffD ?_
          constructor
          · rintro ⟨j, h1, h2⟩; exact ⟨j, by omega, h2⟩
          · rintro ⟨j, h1, h2, k, h3, h4⟩
            by_cases hj : j = i
            · subst hj
              rcases h4 with h4 | h4
              · exact absurd (hx2.2 ⟨k, h3, h4.symm⟩) (by simp)
              · exact absurd (hy2.2 ⟨k, h3, h4.symm⟩) (by simp)
            · exact ⟨j, by omega, h2, k, h3, h4⟩
/-- some number is twice in a row or a column -/
def Twice (t : List (List Int)) : Prop := ∃ i, i < t.length ∧ ∃ j, j < t.length ∧ ∃ k, k < j ∧ (en t i j = en t i k ∨ en t j i = en t k i)
open Classical in
theorem f85_eq {N : Nat} {t : List (List Int)} (hq : Sq t) (hN : 30 ≤ N) : ∃ b, f85 N t = some b ∧ (b = true ↔ Twice t) := by
  unfold f85
  have hlen := hq.hi
  simp only [joinK]
  rw [loop_ex0 (F := fun n i => f85_3 t N f85_c15 n false i) (e := some true) (k0 := some false) (p := fun i => ∃ j, j < t.length ∧ ∃ k, k < j ∧ (en t i j = en t i k ∨ en t j i = en t k i)) t.length]
  · unfold Twice
    by_cases h : ∃ i, i < t.length ∧ ∃ j, j < t.length ∧ ∃ k, k < j ∧ (en t i j = en t i k ∨ en t j i = en t k i)
    · exact ⟨true, by rw [if_pos h], by simp [h]⟩
    · exact ⟨false, by rw [if_neg h], by simp [h]⟩
  · intro n i hi
    show f85_3 t N f85_c15 (n + 1) false (i : Int) = _
    conv => lhs; unfold f85_3 f85_3b
    simp only [show (i : Int) < (t.length : Int) by omega, decide_true, cond_true, joinK]
    rw [show (0 : Int) = ((0 : Nat) : Int) from rfl, f85_in (N := N) hq hi N 0 _ _ (by omega) (by omega) Seen.zero Seen.zero]
    unfold f85_c14 f85_c15
    rw [W_nat (by omega)]
    refine iffD ⟨?_, ?_⟩
    · rintro ⟨j, _, h2⟩; exact ⟨j, h2⟩
    · rintro ⟨j, h2⟩; exact ⟨j, by omega, h2⟩
  · intro n
    show f85_3 t N f85_c15 (n + 1) false _ = _
    conv => lhs; unfold f85_3 f85_3b
    simp [f85_c15]
  · omega
theorem flat_ex {t : List (List Int)} (hlen : ∀ i, i < t.length → (row t i).length = t.length) {p : Int → Prop} : (∃ v, v < t.flatten.length ∧ p (t.flatten.getD v 0)) ↔ ∃ i, i < t.length ∧ ∃ j, j < t.length ∧ p (en t i j) := by
  constructor
  · rintro ⟨v, hv, hp⟩
    have hm : t.flatten.getD v 0 ∈ t.flatten := by
      rw [List.getD_eq_getElem?_getD, List.getElem?_eq_getElem hv]; exact List.getElem_mem hv
    obtain ⟨r, hr, hx⟩ := List.mem_flatten.1 hm
    obtain ⟨i, hi⟩ := List.mem_iff_getElem?.1 hr
    obtain ⟨j, hj⟩ := List.mem_iff_getElem?.1 hx
    have hi' := (List.getElem?_eq_some_iff.1 hi).1
    have hj' := (List.getElem?_eq_some_iff.1 hj).1
    have e1 : row t i = r := by rw [row_get hi'] at hi; exact Option.some.inj hi
    refine ⟨i, hi', j, by rw [← hlen i hi', e1]; exact hj', ?_⟩
    have : en t i j = t.flatten.getD v 0 := by unfold en; rw [e1, List.getD_eq_getElem?_getD, hj]; rfl
    rw [this]; exact hp
  · rintro ⟨i, hi, j, hj, hp⟩
    have hm : en t i j ∈ t.flatten := List.mem_flatten.2 ⟨row t i, row_mem hi, by
      unfold en
      have : j < (row t i).length := by rw [hlen i hi]; exact hj
      simp [this]⟩
    obtain ⟨v, hv⟩ := List.mem_iff_getElem?.1 hm
    exact ⟨v, (List.getElem?_eq_some_iff.1 hv).1, by rw [List.getD_eq_getElem?_getD, hv]; exact hp⟩
open Classical in
theorem f49_eq {N : Nat} {t : List (List Int)} (hs : Small t) (hN : 500 ≤ N) : f49 N t = some (chkT t) := by
  have hs0 := hs
  obtain ⟨hs, hr⟩ := hs
  unfold f49 chkT
  rw [f64_eq]
  simp only [Option.bind_some]
  by_cases h1 : 2 ≤ t.length ∧ t.length ≤ 10
  · rw [if_neg (by simp [h1]), show decide ((2 : Int) ≤ (t.length : Int) ∧ (t.length : Int) ≤ 10) = true by simp; omega]
    simp only [Bool.not_true, cond_false, joinK]
    rw [loop_ex0 (F := f49_i206_i207000102_2 t N (f49_i206_i207000102_c7 t N)) (e := some 3) (k0 := f49_i206_i207000102_c7 t N) (p := fun i => (row t i).length ≠ t.length) t.length]
    · by_cases h2 : ∃ i, i < t.length ∧ (row t i).length ≠ t.length
      · rw [if_pos h2, if_pos h2]
      · rw [if_neg h2, if_neg h2]
        have hl : ∀ i, i < t.length → (row t i).length = t.length := fun i hi => by
          by_cases hh : (row t i).length = t.length
          · exact hh
          · exact absurd ⟨i, hi, hh⟩ h2
        have hfl : t.flatten.length ≤ 400 := by
          have : ∀ (l : List (List Int)), (∀ r, r ∈ l → r.length ≤ 20) → l.flatten.length ≤ 20 * l.length := by
            intro l
            induction l with
            | nil => intro _; simp
            | cons x l ih =>
              intro h
              have := ih fun r hr => h r (by simp [hr])
              have := h x (by simp)
              simp only [List.flatten_cons, List.length_append, List.length_cons]; omega
          have := this t hr; omega
        unfold f49_i206_i207000102_c7
        rw [f83_eq hs0 (by omega)]
        simp only [Option.bind_some, joinK]
        rw [loop_ex0 (F := f49_i403_i404000102_2 t N t.flatten (f49_i403_i404000102_c7 t N)) (e := some 4) (k0 := f49_i403_i404000102_c7 t N) (p := fun v => ¬ (0 ≤ t.flatten.getD v 0 ∧ t.flatten.getD v 0 < t.length)) t.flatten.length]
        · by_cases h3 : ∃ i, i < t.length ∧ ∃ j, j < t.length ∧ ¬ (0 ≤ en t i j ∧ en t i j < t.length)
          · rw [if_pos h3, if_pos ((flat_ex hl (p := fun x => ¬ (0 ≤ x ∧ x < t.length))).2 h3)]
          · rw [if_neg h3, if_neg (fun hh => h3 ((flat_ex hl (p := fun x => ¬ (0 ≤ x ∧ x < t.length))).1 hh))]
            unfold f49_i403_i404000102_c7
            have hq : Sq t := ⟨h1.2, hl, fun i j hi hj => by
              by_cases hh : 0 ≤ en t i j ∧ en t i j < t.length
              · exact hh
              · exact absurd ⟨i, hi, j, hj, hh⟩ h3⟩
            obtain ⟨b, hb, hb2⟩ := f85_eq (N := N) hq (by omega)
            rw [hb]
            simp only [Option.bind_some]
            unfold Twice at hb2
            cases b with
            | true => rw [if_pos (hb2.1 rfl)]; rfl
            | false => rw [if_neg (fun hh => absurd (hb2.2 hh) (by simp))]; rfl
        · intro n v hv
          conv => lhs; unfold f49_i403_i404000102_2 f49_i403_i404000102_2b
          have hg : ix t.flatten (v : Int) = some (t.flatten.getD v 0) := by rw [ix_nat, List.getD_eq_getElem?_getD, List.getElem?_eq_getElem hv]; rfl
          simp only [show (v : Int) < (t.flatten.length : Int) by omega, decide_true, cond_true, hg, Option.bind_some, f64_eq, W_sub1 (show t.length ≤ 1000000 by omega), show (0 : Int) ≤ (v : Int) by omega]
          rw [W_nat (by omega)]
          by_cases e1 : 0 ≤ t.flatten.getD v 0 ∧ t.flatten.getD v 0 < t.length
          · rw [if_neg (by simpa using e1), show decide (0 ≤ t.flatten.getD v 0 ∧ t.flatten.getD v 0 ≤ (t.length : Int) - 1) = true by simp only [decide_eq_true_eq]; omega]; rfl
          · rw [if_pos e1, show decide (0 ≤ t.flatten.getD v 0 ∧ t.flatten.getD v 0 ≤ (t.length : Int) - 1) = false by simp only [decide_eq_false_iff_not]; omega]; rfl
        · intro n; (conv => lhs; unfold f49_i403_i404000102_2 f49_i403_i404000102_2b); simp
        · omega
    · intro n i hi
      conv => lhs; unfold f49_i206_i207000102_2 f49_i206_i207000102_2b
      simp only [show (i : Int) < (t.length : Int) by omega, decide_true, cond_true, ix_row (show i < t.length from hi), Option.bind_some, show (0 : Int) ≤ (i : Int) by omega]
      rw [W_nat (by omega)]
      by_cases e1 : (row t i).length = t.length
      · simp [e1]
      · simp [e1, show ¬ ((row t i).length : Int) = (t.length : Int) by omega]
    · intro n; (conv => lhs; unfold f49_i206_i207000102_2 f49_i206_i207000102_2b); simp
    · omega
  · rw [if_pos (by simpa using h1), show decide ((2 : Int) ≤ (t.length : Int) ∧ (t.length : Int) ≤ 10) = false by simp; omega]
    rfl
/-- a table that is right -/
structure Lat (t : List (List Int)) : Prop extends Sq t where
  two : 2 ≤ t.length
  once : ¬ Twice t
open Classical in
theorem chkT_good {t : List (List Int)} : chkT t = 0 ↔ Lat t := by
  unfold chkT
  constructor
  · intro h
    split at h
    · exact absurd h (by decide)
    · rename_i h1
      split at h
      · exact absurd h (by decide)
      · rename_i h2
        split at h
        · exact absurd h (by decide)
        · rename_i h3
          split at h
          · exact absurd h (by decide)
          · rename_i h4
            refine ⟨⟨by omega, fun i hi => ?_, fun i j hi hj => ?_⟩, by omega, h4⟩
            · by_cases hh : (row t i).length = t.length
              · exact hh
              · exact absurd ⟨i, hi, hh⟩ h2
            · by_cases hh : 0 ≤ en t i j ∧ en t i j < t.length
              · exact hh
              · exact absurd ⟨i, hi, j, hj, hh⟩ h3
  · intro h
    rw [if_neg (fun hn => hn ⟨h.two, h.hi⟩), if_neg (by rintro ⟨i, hi, hh⟩; exact hh (h.len i hi)), if_neg (by rintro ⟨i, hi, j, hj, hh⟩; exact hh (h.lo i j hi hj))]
    exact if_neg h.once
end Go.Vc
namespace Go.Vc
open Go.Proofs
set_option linter.unusedVariables false
set_option linter.unnecessarySimpa false
set_option linter.unusedSimpArgs false
def f60_c9 (e5' : Int) : Option (Int) :=
 some (e5')
def f60_5b (r5 : Int → Int → Option (Int)) (a0 : List (List Int)) (a1 : List Int) (N : Nat) (k0 : Int → Option (Int)) (e5' : Int) (i6 : Int) : Option (Int) :=
 bif decide (i6 < (List.length a1 : Int)) then (bif decide ((e5') = (0 : Int)) then ((ix a1 i6).bind fun x2 =>
 (f57 N x2 (0 : Int) (W ((List.length a0 : Int) - (1 : Int)))).bind fun x3 =>
 bif !x3 then (r5 (4 : Int) (W (i6 + (1 : Int))))
 else (r5 (e5') (W (i6 + (1 : Int)))))
 else (r5 (e5') (W (i6 + (1 : Int)))))
 else (k0 (e5'))
def f60_5 (a0 : List (List Int)) (a1 : List Int) (N : Nat) (k0 : Int → Option (Int)) : Nat → Int → Int → Option (Int)
  | 0, _, _ => none
  | n + 1, e5', i6 => f60_5b (f60_5 a0 a1 N k0 n) a0 a1 N k0 e5' i6
def f60_c4 (a0 : List (List Int)) (a1 : List Int) (N : Nat) (e5 : Int) : Option (Int) :=
 joinK f60_c9 fun k0 =>
 f60_5 a0 a1 N k0 N e5 (0 : Int)
def f60 (N : Nat) (a0 : List (List Int)) (a1 : List Int) : Option (Int) :=
 (f50 N a0).bind fun x1 =>
 joinK (f60_c4 a0 a1 N) fun k1 =>
 bif decide (x1 = (0 : Int)) then (bif decide ((12 : Int) < (List.length a1 : Int)) then (k1 (2 : Int))
 else (k1 x1))
 else (k1 x1)
end Go.Vc
namespace Go.Vc
open Go.Proofs
set_option linter.unusedVariables false
set_option linter.unnecessarySimpa false
set_option linter.unusedSimpArgs false
def f61_c6 (s5 : Int) : Option (Int) :=
 some (s5)
def f61_3b (r3 : Int → Int → Option (Int)) (a0 : List (List Int)) (a1 : List Int) (k0 : Int → Option (Int)) (s5 : Int) (i6 : Int) : Option (Int) :=
 bif decide (i6 < (List.length a1 : Int)) then ((ix a0 s5).bind fun x1 =>
 (ix a1 i6).bind fun x2 =>
 (ix x1 x2).bind fun x3 =>
 r3 x3 (W (i6 + (1 : Int))))
 else (k0 s5)
def f61_3 (a0 : List (List Int)) (a1 : List Int) (k0 : Int → Option (Int)) : Nat → Int → Int → Option (Int)
  | 0, _, _ => none
  | n + 1, s5, i6 => f61_3b (f61_3 a0 a1 k0 n) a0 a1 k0 s5 i6
def f61 (N : Nat) (a0 : List (List Int)) (a1 : List Int) : Option (Int) :=
 joinK f61_c6 fun k0 =>
 f61_3 a0 a1 k0 N (0 : Int) (0 : Int)
end Go.Vc
namespace Go.Vc
open Go.Proofs
set_option linter.unusedVariables false
set_option linter.unnecessarySimpa false
set_option linter.unusedSimpArgs false
def f22 (N : Nat) (a0 : List (List Int)) (a1 : List Int) : Option (Int × Int) :=
 (f60 N a0 a1).bind fun x1 =>
 bif decide (¬ x1 = (0 : Int)) then (some ((0 : Int), x1))
 else ((f61 N a0 a1).bind fun x2 =>
 some (x2, (0 : Int)))
end Go.Vc
namespace Go.Vc
open Go.Proofs
set_option linter.unusedVariables false
set_option linter.unnecessarySimpa false
set_option linter.unusedSimpArgs false
def f24_c7 (d8 : Int) : Option (Int × Int) :=
 some (d8, (0 : Int))
def f24_5b (r5 : Int → Option (Int × Int)) (a0 : List (List Int)) (x1 : Int × Int) (k0 : Int → Option (Int × Int)) (d8 : Int) : Option (Int × Int) :=
 (ix a0 x1.1).bind fun x2 =>
 (ix x2 d8).bind fun x3 =>
 bif decide (¬ x3 = (0 : Int)) then (r5 (W (d8 + (1 : Int))))
 else (k0 d8)
def f24_5 (a0 : List (List Int)) (x1 : Int × Int) (k0 : Int → Option (Int × Int)) : Nat → Int → Option (Int × Int)
  | 0, _ => none
  | n + 1, d8 => f24_5b (f24_5 a0 x1 k0 n) a0 x1 k0 d8
def f24 (N : Nat) (a0 : List (List Int)) (a1 : List Int) : Option (Int × Int) :=
 (f22 N a0 a1).bind fun x1 =>
 bif decide (¬ x1.2 = (0 : Int)) then (some ((0 : Int), x1.2))
 else (joinK f24_c7 fun k0 =>
 f24_5 a0 x1 k0 N (0 : Int))
end Go.Vc
namespace Go.Vc
open Go.Proofs
set_option linter.unusedVariables false
set_option linter.unnecessarySimpa false
set_option linter.unusedSimpArgs false
def f66 (N : Nat) (a0 : List (List Int)) (a1 : List Int) : Option (Int) :=
 (f50 N a0).bind fun x1 =>
 bif decide (x1 = (0 : Int)) then (bif decide ((List.length a1 : Int) < (2 : Int)) then (some ((1 : Int)))
 else ((f60 N a0 a1).bind fun x2 =>
 some (x2)))
 else (some (x1))
end Go.Vc
namespace Go.Vc
open Go.Proofs
set_option linter.unusedVariables false
set_option linter.unnecessarySimpa false
set_option linter.unusedSimpArgs false
def f67 (N : Nat) (a0 : List Int) (a1 : Int) (a2 : Int) : Option ((List Int)) :=
 (app 8 [] a0).bind fun x1 =>
 (ix x1 a1).bind fun x2 =>
 (setx x1 a1 a2).bind fun x3 =>
 some (x3)
end Go.Vc
namespace Go.Vc
open Go.Proofs
set_option linter.unusedVariables false
set_option linter.unnecessarySimpa false
set_option linter.unusedSimpArgs false
def f26_c9 (d9 : Int) : Option (Int × Int) :=
 some (d9, (0 : Int))
def f26_7b (r7 : Int → Option (Int × Int)) (a0 : List (List Int)) (a1 : List Int) (a2 : Int) (N : Nat) (k0 : Int → Option (Int × Int)) (d9 : Int) : Option (Int × Int) :=
 (f67 N a1 a2 d9).bind fun x2 =>
 (f61 N a0 x2).bind fun x3 =>
 bif decide (¬ x3 = (0 : Int)) then (r7 (W (d9 + (1 : Int))))
 else (k0 d9)
def f26_7 (a0 : List (List Int)) (a1 : List Int) (a2 : Int) (N : Nat) (k0 : Int → Option (Int × Int)) : Nat → Int → Option (Int × Int)
  | 0, _ => none
  | n + 1, d9 => f26_7b (f26_7 a0 a1 a2 N k0 n) a0 a1 a2 N k0 d9
def f26_c4 (a0 : List (List Int)) (a1 : List Int) (a2 : Int) (N : Nat) (e8 : Int) : Option (Int × Int) :=
 bif decide (¬ e8 = (0 : Int)) then (some ((0 : Int), e8))
 else (joinK f26_c9 fun k0 =>
 f26_7 a0 a1 a2 N k0 N (0 : Int))
def f26 (N : Nat) (a0 : List (List Int)) (a1 : List Int) (a2 : Int) : Option (Int × Int) :=
 (f66 N a0 a1).bind fun x1 =>
 joinK (f26_c4 a0 a1 a2 N) fun k1 =>
 bif decide (x1 = (0 : Int)) then ((f57 N a2 (0 : Int) (W ((List.length a1 : Int) - (1 : Int)))).bind fun x4 =>
 bif !x4 then (k1 (5 : Int))
 else (k1 x1))
 else (k1 x1)
end Go.Vc
namespace Go.Vc
open Go.Proofs
set_option linter.unusedVariables false
set_option linter.unnecessarySimpa false
set_option linter.unusedSimpArgs false
def f28 (N : Nat) (a0 : List (List Int)) (a1 : List Int) : Option (Int) :=
 (f66 N a0 a1).bind fun x1 =>
 bif decide (x1 = (0 : Int)) then ((f61 N a0 a1).bind fun x2 =>
 bif decide (¬ x2 = (0 : Int)) then (some ((13 : Int)))
 else (some (x1)))
 else (some (x1))
end Go.Vc
namespace Go.Vc
open Go.Proofs
set_option linter.unusedVariables false
set_option linter.unnecessarySimpa false
set_option linter.unusedSimpArgs false
def f4 (N : Nat) (a0 : List (List Int)) (a1 : List Int) (a2 : Int) : Option (Bool) :=
 (f20 N a0).bind fun x1 =>
 bif x1 then ((f15 N ).bind fun x2 =>
 some (x2))
 else (bif decide ((40 : Int) < (List.length a1 : Int)) then ((f15 N ).bind fun x3 =>
 some (x3))
 else ((f21 N a0 a1).bind fun x4 =>
 (f22 N a0 a1).bind fun x5 =>
 (f23 N a0 a1).bind fun x6 =>
 (f24 N a0 a1).bind fun x7 =>
 (f25 N a0 a1 a2).bind fun x8 =>
 (f26 N a0 a1 a2).bind fun x9 =>
 bif decide (x4.1 = x5.1) then (bif decide (x4.2 = x5.2) then (bif decide (x6.1 = x7.1) then (bif decide (x6.2 = x7.2) then (bif decide (x8.1 = x9.1) then (bif decide (x8.2 = x9.2) then ((f27 N a0 a1).bind fun x10 =>
 (f28 N a0 a1).bind fun x11 =>
 bif decide (x10 = x11) then ((f15 N ).bind fun x12 =>
 some (x12))
 else (some (false)))
 else (some (false)))
 else (some (false)))
 else (some (false)))
 else (some (false)))
 else (some (false)))
 else (some (false))))
end Go.Vc
/-
  PLAIN LAWS OF SERIAL, 4: states, check digits, right codes, restored digits.
-/
namespace Go.Vc
set_option linter.unusedVariables false
set_option linter.unnecessarySimpa false
set_option linter.unusedSimpArgs false
set_option linter.unusedSimpArgs false
/-- pigeons -/
theorem pig : ∀ (n : Nat) (f : Nat → Nat), (∀ i, i < n → f i < n) → (∀ i j, i < n → j < n → f i = f j → i = j) → ∀ y, y < n → ∃ i, i < n ∧ f i = y := by
  intro n
  induction n with
  | zero => intro f _ _ y h; omega
  | succ m ih =>
    intro f h hi y hy
    have hz := h m (by omega)
    have hg := ih (fun i => if f i = m then f m else f i) (by
      intro i him
      have h1 := h i (by omega)
      by_cases e : f i = m
      · have : f m ≠ m := fun hh => by have := hi i m (by omega) (by omega) (e.trans hh.symm); omega
        simp only [e, if_true]; omega
      · simp only [e, if_false]; omega) (by
      intro i j him hjm hh
      by_cases e : f i = m
      · by_cases e2 : f j = m
        · exact hi i j (by omega) (by omega) (e.trans e2.symm)
        · simp only [e, e2, if_true, if_false] at hh
          have := hi m j (by omega) (by omega) hh; omega
      · by_cases e2 : f j = m
        · simp only [e, e2, if_true, if_false] at hh
          have := hi i m (by omega) (by omega) hh; omega
        · simp only [e, e2, if_false] at hh
          exact hi i j (by omega) (by omega) hh)
    by_cases e : y = f m
    · exact ⟨m, by omega, e.symm⟩
    · by_cases e2 : y < m
      · obtain ⟨i, h1, h2⟩ := hg y e2
        refine ⟨i, by omega, ?_⟩
        by_cases e3 : f i = m
        · simp only [e3, if_true] at h2; omega
        · simpa only [e3, if_false] using h2
      · obtain ⟨i, h1, h2⟩ := hg (f m) (by omega)
        refine ⟨i, by omega, ?_⟩
        by_cases e3 : f i = m
        · omega
        · simp only [e3, if_false] at h2
          have := hi i m (by omega) (by omega) h2; omega
/-- the state after digits -/
def dl (t : List (List Int)) (s : Nat) (l : List Int) : Nat := l.foldl (fun s d => (en t s d.toNat).toNat) s
def Dig (t : List (List Int)) (l : List Int) : Prop := ∀ x, x ∈ l → 0 ≤ x ∧ x < t.length
theorem dl_nil {t : List (List Int)} {s : Nat} : dl t s [] = s := rfl
theorem dl_cons {t : List (List Int)} {s : Nat} {d : Int} {l : List Int} : dl t s (d :: l) = dl t (en t s d.toNat).toNat l := rfl
theorem dl_append {t : List (List Int)} {s : Nat} {a b : List Int} : dl t s (a ++ b) = dl t (dl t s a) b := by simp [dl]
theorem Dig.cons {t : List (List Int)} {d : Int} {l : List Int} (h : Dig t (d :: l)) : (0 ≤ d ∧ d < t.length) ∧ Dig t l := ⟨h d (by simp), fun x hx => h x (by simp [hx])⟩
theorem Dig.append {t : List (List Int)} {a b : List Int} : Dig t (a ++ b) ↔ Dig t a ∧ Dig t b := by
  constructor
  · intro h; exact ⟨fun x hx => h x (by simp [hx]), fun x hx => h x (by simp [hx])⟩
  · rintro ⟨h1, h2⟩ x hx
    rcases List.mem_append.1 hx with hx | hx
    · exact h1 x hx
    · exact h2 x hx
theorem Sq.step {t : List (List Int)} (h : Sq t) {s : Nat} {d : Int} (hs : s < t.length) (hd : 0 ≤ d ∧ d < t.length) : (en t s d.toNat).toNat < t.length ∧ Vc.ix (row t s) d = some (((en t s d.toNat).toNat : Nat) : Int) := by
  have := h.lo s d.toNat hs (by omega)
  refine ⟨by omega, ?_⟩
  have h2 := h.ix hs (show d.toNat < t.length by omega)
  rw [show ((d.toNat : Nat) : Int) = d by omega] at h2
  rw [h2]; congr 1; omega
theorem dl_lt {t : List (List Int)} (h : Sq t) : ∀ {l : List Int} {s : Nat}, s < t.length → Dig t l → dl t s l < t.length
  | [], s, hs, _ => hs
  | d :: l, s, hs, hd => by rw [dl_cons]; exact dl_lt h (h.step hs hd.cons.1).1 hd.cons.2
theorem f59_loop {t : List (List Int)} (h : Sq t) {l : List Int} {k0 : Int → Option Int} (hl : l.length ≤ 1000000) (hd : Dig t l) : ∀ n (i s : Nat), i ≤ l.length → l.length - i < n → s < t.length → f59_i103_2 t l k0 n (s : Int) (i : Int) = k0 ((dl t s (l.drop i) : Nat) : Int) := by
  intro n
  induction n with
  | zero => intro i s _ h; omega
  | succ n ih =>
    intro i s hi hn hs
    conv => lhs; unfold f59_i103_2 f59_i103_2b
    by_cases e : i = l.length
    · subst e; simp [dl_nil]
    · have hi : i < l.length := by omega
      have hx : 0 ≤ l[i] ∧ l[i] < t.length := hd _ (List.getElem_mem hi)
      obtain ⟨h1, h2⟩ := h.step hs hx
      simp only [show (i : Int) < (l.length : Int) by omega, decide_true, cond_true, ix_get hi, Option.bind_some, ix_row hs, h2]
      rw [W_nat (by omega), ih (i + 1) _ hi (by omega) h1, List.drop_eq_getElem_cons hi, dl_cons]
theorem f59_eq {N : Nat} {t : List (List Int)} (h : Sq t) {l : List Int} {s : Nat} (hd : Dig t l) (hs : s < t.length) (hl : l.length ≤ 50) (hN : 100 ≤ N) : f59 N t (s : Int) l = some ((dl t s l : Nat) : Int) := by
  unfold f59
  simp only [joinK]
  have := f59_loop h (k0 := f59_i103_c6 t) (by omega) hd N 0 s (by omega) (by omega) hs
  rw [show ((0 : Nat) : Int) = 0 from rfl] at this
  rw [this]; rfl
theorem f61_loop {t : List (List Int)} (h : Sq t) {l : List Int} {k0 : Int → Option Int} (hl : l.length ≤ 1000000) (hd : Dig t l) : ∀ n (i s : Nat), i ≤ l.length → l.length - i < n → s < t.length → f61_3 t l k0 n (s : Int) (i : Int) = k0 ((dl t s (l.drop i) : Nat) : Int) := by
  intro n
  induction n with
  | zero => intro i s _ h; omega
  | succ n ih =>
    intro i s hi hn hs
    conv => lhs; unfold f61_3 f61_3b
    by_cases e : i = l.length
    · subst e; simp [dl_nil]
    · have hi : i < l.length := by omega
      have hx : 0 ≤ l[i] ∧ l[i] < t.length := hd _ (List.getElem_mem hi)
      obtain ⟨h1, h2⟩ := h.step hs hx
      simp only [show (i : Int) < (l.length : Int) by omega, decide_true, cond_true, ix_get hi, Option.bind_some, ix_row hs, h2]
      rw [W_nat (by omega), ih (i + 1) _ hi (by omega) h1, List.drop_eq_getElem_cons hi, dl_cons]
theorem f61_eq {N : Nat} {t : List (List Int)} (h : Lat t) {l : List Int} (hd : Dig t l) (hl : l.length ≤ 50) (hN : 100 ≤ N) : f61 N t l = some ((dl t 0 l : Nat) : Int) := by
  unfold f61
  simp only [joinK]
  have := f61_loop h.toSq (k0 := f61_c6) (by omega) hd N 0 0 (by omega) (by omega) (by have := h.two; omega)
  rw [show ((0 : Nat) : Int) = 0 from rfl] at this
  rw [this]; rfl
open Classical in
/-- digits that are checked -/
noncomputable def digT (t : List (List Int)) (l : List Int) : Int :=
  if chkT t ≠ 0 then chkT t else if 12 < l.length then 2 else if ∃ i, i < l.length ∧ ¬ (0 ≤ l.getD i 0 ∧ l.getD i 0 < t.length) then 4 else 0
theorem dig_iff {t : List (List Int)} {l : List Int} : Dig t l ↔ ¬ ∃ i, i < l.length ∧ ¬ (0 ≤ l.getD i 0 ∧ l.getD i 0 < t.length) := by
  constructor
  · rintro h ⟨i, hi, hn⟩
    exact hn (h _ (by simp [hi]))
  · intro h x hx
    obtain ⟨i, hi⟩ := List.mem_iff_getElem?.1 hx
    have := (List.getElem?_eq_some_iff.1 hi).1
    by_cases hh : 0 ≤ x ∧ x < t.length
    · exact hh
    · exact absurd ⟨i, this, by simpa [hi] using hh⟩ h
theorem ix_getD {l : List Int} {i : Nat} (h : i < l.length) : ix l (i : Int) = some (l.getD i 0) := by simp [ix_nat, h]
open Classical in
theorem f58_eq {N : Nat} {t : List (List Int)} {l : List Int} (hs : Small t) (hl : l.length ≤ 50) (hN : 500 ≤ N) : f58 N t l = some (digT t l) := by
  unfold f58 digT
  rw [f49_eq hs hN]
  simp only [Option.bind_some]
  by_cases h1 : chkT t = 0
  · rw [if_neg (by simp [h1])]
    simp only [h1, not_true_eq_false, decide_false, cond_false]
    by_cases h2 : 12 < l.length
    · rw [if_pos h2]; simp [show (12 : Int) < (l.length : Int) by omega]
    · rw [if_neg h2]
      simp only [show ¬ (12 : Int) < (l.length : Int) by omega, decide_false, cond_false, joinK]
      have := hs.1
      rw [loop_ex0 (F := f58_i602_i603000102_2 t l N (f58_i602_i603000102_c7 t)) (e := some 4) (k0 := some 0) (p := fun i => ¬ (0 ≤ l.getD i 0 ∧ l.getD i 0 < t.length)) l.length]
      · split <;> rfl
      · intro n i hi
        conv => lhs; unfold f58_i602_i603000102_2 f58_i602_i603000102_2b
        simp only [show (i : Int) < (l.length : Int) by omega, decide_true, cond_true, ix_getD hi, Option.bind_some, f64_eq, W_sub1 (show t.length ≤ 1000000 by omega), show (0 : Int) ≤ (i : Int) by omega]
        rw [W_nat (by omega)]
        by_cases e1 : 0 ≤ l.getD i 0 ∧ l.getD i 0 < t.length
        · rw [if_neg (by simpa using e1), show decide (0 ≤ l.getD i 0 ∧ l.getD i 0 ≤ (t.length : Int) - 1) = true by simp only [decide_eq_true_eq]; omega]; rfl
        · rw [if_pos e1, show decide (0 ≤ l.getD i 0 ∧ l.getD i 0 ≤ (t.length : Int) - 1) = false by simp only [decide_eq_false_iff_not]; omega]; rfl
      · intro n; (conv => lhs; unfold f58_i602_i603000102_2 f58_i602_i603000102_2b); simp; rfl
      · omega
  · rw [if_pos h1]; simp [h1]
theorem f60_skip {t : List (List Int)} {l : List Int} {N : Nat} {k0 : Int → Option Int} {e : Int} (he : e ≠ 0) (hl : l.length ≤ 50) : ∀ n i, i ≤ l.length → l.length - i < n → f60_5 t l N k0 n e (i : Int) = k0 e := by
  intro n
  induction n with
  | zero => intro i _ h; omega
  | succ n ih =>
    intro i hi hn
    conv => lhs; unfold f60_5 f60_5b
    by_cases e1 : i = l.length
    · subst e1; simp
    · simp only [show (i : Int) < (l.length : Int) by omega, decide_true, cond_true, he, decide_false, cond_false]
      rw [W_nat (by omega), ih (i + 1) (by omega) (by omega)]
open Classical in
theorem f60_loop {t : List (List Int)} {l : List Int} {N : Nat} {k0 : Int → Option Int} (ht : t.length ≤ 1000000) (hl : l.length ≤ 50) : ∀ n i, i ≤ l.length → l.length - i < n → f60_5 t l N k0 n 0 (i : Int) = if ∃ j, i ≤ j ∧ j < l.length ∧ ¬ (0 ≤ l.getD j 0 ∧ l.getD j 0 < t.length) then k0 4 else k0 0 := by
  intro n
  induction n with
  | zero => intro i _ h; omega
  | succ n ih =>
    intro i hi hn
    conv => lhs; unfold f60_5 f60_5b
    by_cases e1 : i = l.length
    · subst e1; simp only [Int.lt_irrefl, decide_false, cond_false]
      rw [if_neg]
      rintro ⟨j, h1, h2, _⟩; omega
    · have hi : i < l.length := by omega
      simp only [show (i : Int) < (l.length : Int) by omega, decide_true, cond_true, ix_getD hi, Option.bind_some, f57_eq, W_sub1 ht]
      rw [W_nat (by omega)]
      by_cases e2 : 0 ≤ l.getD i 0 ∧ l.getD i 0 < t.length
      · rw [show decide (0 ≤ l.getD i 0 ∧ l.getD i 0 ≤ (t.length : Int) - 1) = true by simp only [decide_eq_true_eq]; omega]
        simp only [Bool.not_true, cond_false]
        rw [ih (i + 1) (by omega) (by omega)]
        refine iffD ⟨?_, ?_⟩
        · rintro ⟨j, h1, h2⟩; exact ⟨j, by omega, h2⟩
        · rintro ⟨j, h1, h2, h3⟩
          by_cases hj : j = i
          · subst hj; exact absurd e2 h3
          · exact ⟨j, by omega, h2, h3⟩
      · rw [show decide (0 ≤ l.getD i 0 ∧ l.getD i 0 ≤ (t.length : Int) - 1) = false by simp only [decide_eq_false_iff_not]; omega]
        simp only [Bool.not_false, cond_true]
        rw [f60_skip (by decide) hl n (i + 1) (by omega) (by omega), if_pos ⟨i, Nat.le_refl _, hi, e2⟩]
open Classical in
theorem f60_eq {N : Nat} {t : List (List Int)} {l : List Int} (hs : Small t) (hl : l.length ≤ 50) (hN : 500 ≤ N) : f60 N t l = some (digT t l) := by
  unfold f60 digT
  rw [f50_eq hs.1 (by omega)]
  simp only [Option.bind_some, joinK]
  have := hs.1
  by_cases h1 : chkT t = 0
  · rw [if_neg (by simp [h1])]
    simp only [h1, decide_true, cond_true]
    by_cases h2 : 12 < l.length
    · rw [if_pos h2]
      simp only [show (12 : Int) < (l.length : Int) by omega, decide_true, cond_true]
      unfold f60_c4; simp only [joinK]
      have := f60_skip (t := t) (N := N) (k0 := f60_c9) (e := 2) (by decide) hl N 0 (by omega) (by omega)
      rw [show ((0 : Nat) : Int) = 0 from rfl] at this
      rw [this]; rfl
    · rw [if_neg h2]
      simp only [show ¬ (12 : Int) < (l.length : Int) by omega, decide_false, cond_false]
      unfold f60_c4; simp only [joinK]
      have := f60_loop (t := t) (N := N) (k0 := f60_c9) (by omega) hl N 0 (by omega) (by omega)
      rw [show ((0 : Nat) : Int) = 0 from rfl] at this
      rw [this]
      by_cases h3 : ∃ i, i < l.length ∧ ¬ (0 ≤ l.getD i 0 ∧ l.getD i 0 < t.length)
      · obtain ⟨i, h4, h5⟩ := h3
        rw [if_pos ⟨i, by omega, h4, h5⟩, if_pos ⟨i, h4, h5⟩]; rfl
      · rw [if_neg (fun ⟨i, _, h4⟩ => h3 ⟨i, h4⟩), if_neg h3]; rfl
  · rw [if_pos h1]
    simp only [h1, decide_false, cond_false]
    unfold f60_c4; simp only [joinK]
    have := f60_skip (t := t) (N := N) (k0 := f60_c9) (e := chkT t) h1 hl N 0 (by omega) (by omega)
    rw [show ((0 : Nat) : Int) = 0 from rfl] at this
    rw [this]; rfl
theorem digT_ok {t : List (List Int)} {l : List Int} : digT t l = 0 ↔ Lat t ∧ l.length ≤ 12 ∧ Dig t l := by
  unfold digT
  rw [dig_iff, ← chkT_good]
  by_cases h1 : chkT t = 0
  · rw [if_neg (by simp [h1])]
    by_cases h2 : 12 < l.length
    · rw [if_pos h2]
      constructor
      · intro h; exact absurd h (by decide)
      · rintro ⟨_, h, _⟩; omega
    · rw [if_neg h2]
      by_cases h3 : ∃ i, i < l.length ∧ ¬ (0 ≤ l.getD i 0 ∧ l.getD i 0 < t.length)
      · rw [if_pos h3]
        exact ⟨fun h => absurd h (by decide), fun h => absurd h3 h.2.2⟩
      · rw [if_neg h3]
        exact ⟨fun _ => ⟨h1, by omega, h3⟩, fun _ => rfl⟩
  · rw [if_pos h1]
    exact ⟨fun h => absurd h h1, fun h => absurd h.1 h1⟩
end Go.Vc
/-
  PLAIN LAWS OF SERIAL, 5: the law of codes.
-/
namespace Go.Vc
set_option linter.unusedVariables false
set_option linter.unnecessarySimpa false
set_option linter.unusedSimpArgs false
set_option linter.unusedSimpArgs false
theorem Lat.rowInj {t : List (List Int)} (h : Lat t) {s i j : Nat} (hs : s < t.length) (hi : i < t.length) (hj : j < t.length) (e : en t s i = en t s j) : i = j := by
  rcases Nat.lt_trichotomy i j with h1 | h1 | h1
  · exact absurd ⟨s, hs, j, hj, i, h1, .inl e.symm⟩ h.once
  · exact h1
  · exact absurd ⟨s, hs, i, hi, j, h1, .inl e⟩ h.once
theorem Lat.colInj {t : List (List Int)} (h : Lat t) {s i j : Nat} (hs : s < t.length) (hi : i < t.length) (hj : j < t.length) (e : en t i s = en t j s) : i = j := by
  rcases Nat.lt_trichotomy i j with h1 | h1 | h1
  · exact absurd ⟨s, hs, j, hj, i, h1, .inr e.symm⟩ h.once
  · exact h1
  · exact absurd ⟨s, hs, i, hi, j, h1, .inr e⟩ h.once
theorem dl_inj {t : List (List Int)} (h : Lat t) : ∀ {l : List Int} {a b : Nat}, a < t.length → b < t.length → Dig t l → dl t a l = dl t b l → a = b
  | [], a, b, _, _, _, e => e
  | d :: l, a, b, ha, hb, hd, e => by
    rw [dl_cons, dl_cons] at e
    have hd1 := hd.cons.1
    have := dl_inj h (h.step ha hd1).1 (h.step hb hd1).1 hd.cons.2 e
    have r1 := h.lo a d.toNat ha (by omega)
    have r2 := h.lo b d.toNat hb (by omega)
    exact h.colInj (s := d.toNat) (by omega) ha hb (by omega)
/-- a digit that leads to a state -/
theorem Lat.digit {t : List (List Int)} (h : Lat t) {s : Nat} {post : List Int} (hs : s < t.length) (hp : Dig t post) {y : Nat} (hy : y < t.length) : ∃ d, d < t.length ∧ dl t (en t s d).toNat post = y :=
  pig t.length (fun d => dl t (en t s d).toNat post) (fun i hi => dl_lt h.toSq (by have := h.lo s i hs hi; omega) hp)
    (fun i j hi hj e => by
      have r1 := h.lo s i hs hi
      have r2 := h.lo s j hs hj
      have := dl_inj h (by omega) (by omega) hp e
      exact h.rowInj hs hi hj (by omega)) y hy
theorem Lat.digit1 {t : List (List Int)} (h : Lat t) {s : Nat} {post : List Int} (hs : s < t.length) (hp : Dig t post) {i j : Nat} (hi : i < t.length) (hj : j < t.length) (e : dl t (en t s i).toNat post = dl t (en t s j).toNat post) : i = j := by
  have r1 := h.lo s i hs hi
  have r2 := h.lo s j hs hj
  have := dl_inj h (by omega) (by omega) hp e
  exact h.rowInj hs hi hj (by omega)
open Classical in
theorem f21_eq {N : Nat} {t : List (List Int)} {l : List Int} (hs : Small t) (hl : l.length ≤ 40) (hN : 500 ≤ N) : f21 N t l = some (if digT t l = 0 then (((dl t 0 l : Nat) : Int), (0 : Int)) else (0, digT t l)) := by
  unfold f21
  rw [f58_eq hs (by omega) hN]
  simp only [Option.bind_some]
  by_cases h : digT t l = 0
  · obtain ⟨h1, h2, h3⟩ := digT_ok.1 h
    have h0 := h1.two
    rw [show (0 : Int) = ((0 : Nat) : Int) from rfl, f59_eq h1.toSq h3 (by omega) (by omega) (by omega)]
    simp [h]
  · simp [h]
open Classical in
theorem f22_eq {N : Nat} {t : List (List Int)} {l : List Int} (hs : Small t) (hl : l.length ≤ 40) (hN : 500 ≤ N) : f22 N t l = some (if digT t l = 0 then (((dl t 0 l : Nat) : Int), (0 : Int)) else (0, digT t l)) := by
  unfold f22
  rw [f60_eq hs (by omega) hN]
  simp only [Option.bind_some]
  by_cases h : digT t l = 0
  · obtain ⟨h1, h2, h3⟩ := digT_ok.1 h
    rw [f61_eq h1 h3 (by omega) (by omega)]
    simp [h]
  · simp [h]
theorem digits_eq {N : Nat} {t : List (List Int)} {l : List Int} (hs : Small t) (hl : l.length ≤ 40) (hN : 500 ≤ N) :
    ∃ r, f23 N t l = some r ∧ f24 N t l = some r ∧ (digT t l ≠ 0 → r = (0, digT t l)) ∧ (digT t l = 0 → r.2 = 0 ∧ ∃ d : Nat, d < t.length ∧ r.1 = (d : Int) ∧ en t (dl t 0 l) d = 0) := by
  unfold f23 f24
  rw [f21_eq hs hl hN, f22_eq hs hl hN]
  simp only [Option.bind_some]
  by_cases h : digT t l = 0
  · obtain ⟨h1, h2, h3⟩ := digT_ok.1 h
    have h0 := h1.two
    have hlen := h1.hi
    have hs : dl t 0 l < t.length := dl_lt h1.toSq (by omega) h3
    rw [if_pos h]
    simp only [not_true_eq_false, decide_false, cond_false, ix_row hs, Option.bind_some, joinK]
    obtain ⟨m, hm, hm2⟩ := h1.digit hs (post := []) (fun x hx => by cases hx) (y := 0) (by omega)
    have hm3 : en t (dl t 0 l) m = 0 := by have := h1.lo _ m hs hm; rw [dl_nil] at hm2; omega
    have a1 := loop_find (F := f62_2 (row t (dl t 0 l)) 0 f62_c7) (k := fun i => some ((i : Nat) : Int)) (p := fun i => en t (dl t 0 l) i = 0) m hm3 (by
      intro n i hi hp
      conv => lhs; unfold f62_2 f62_2b
      simp only [h1.len _ hs, show (i : Int) < (t.length : Int) by omega, decide_true, cond_true, h1.ix hs (show i < t.length by omega), Option.bind_some, show ¬ (0 : Int) = en t (dl t 0 l) i from fun hh => hp hh.symm, decide_false, cond_false]
      rw [W_nat (by omega)]) (by
      intro n i hi hp
      conv => lhs; unfold f62_2 f62_2b
      simp only [h1.len _ hs, show (i : Int) < (t.length : Int) by omega, decide_true, cond_true, h1.ix hs (show i < t.length by omega), Option.bind_some, show (0 : Int) = en t (dl t 0 l) i from hp.symm, decide_true]) N 0 (by omega) (by omega)
    obtain ⟨j, _, hj, pj, _, ej⟩ := a1
    have a2 := loop_find (F := f24_5 t (((dl t 0 l : Nat) : Int), (0 : Int)) f24_c7) (k := fun i => f24_c7 ((i : Nat) : Int)) (p := fun i => en t (dl t 0 l) i = 0) m hm3 (by
      intro n i hi hp
      conv => lhs; unfold f24_5 f24_5b
      simp only [ix_row hs, Option.bind_some, h1.ix hs (show i < t.length by omega), hp, not_false_eq_true, decide_true, cond_true]
      rw [W_nat (by omega)]) (by
      intro n i hi hp
      conv => lhs; unfold f24_5 f24_5b
      simp only [ix_row hs, Option.bind_some, h1.ix hs (show i < t.length by omega), hp, not_true_eq_false, decide_false, cond_false]) N 0 (by omega) (by omega)
    obtain ⟨j2, _, hj2, pj2, _, ej2⟩ := a2
    have hjj : j2 = j := h1.rowInj hs (by omega) (by omega) (pj2.trans pj.symm)
    subst hjj
    refine ⟨((j2 : Int), 0), ?_, ?_, fun hh => absurd h hh, fun _ => ⟨rfl, j2, by omega, rfl, pj⟩⟩
    · unfold f62
      simp only [joinK]
      rw [show (0 : Int) = ((0 : Nat) : Int) from rfl] at ej ⊢
      rw [ej]; rfl
    · rw [show (0 : Int) = ((0 : Nat) : Int) from rfl] at ej2 ⊢
      rw [ej2]; rfl
  · rw [if_neg h]
    exact ⟨(0, digT t l), by simp [h], by simp [h], fun _ => rfl, fun hh => absurd hh h⟩
open Classical in
/-- codes that are checked: digits, and two of them -/
noncomputable def codT (t : List (List Int)) (l : List Int) : Int := if chkT t ≠ 0 then chkT t else if l.length < 2 then 1 else digT t l
open Classical in
theorem f63_eq {N : Nat} {t : List (List Int)} {l : List Int} (hs : Small t) (hl : l.length ≤ 50) (hN : 500 ≤ N) : f63 N t l = some (codT t l) := by
  unfold f63 codT
  rw [f49_eq hs hN]
  simp only [Option.bind_some]
  by_cases h1 : chkT t = 0
  · by_cases h2 : l.length < 2
    · simp [h1, h2, show (l.length : Int) < 2 by omega]
    · rw [f58_eq hs hl hN]
      simp [h1, h2, show ¬ (l.length : Int) < 2 by omega]
  · simp [h1]
open Classical in
theorem f66_eq {N : Nat} {t : List (List Int)} {l : List Int} (hs : Small t) (hl : l.length ≤ 50) (hN : 500 ≤ N) : f66 N t l = some (codT t l) := by
  unfold f66 codT
  rw [f50_eq hs.1 (by omega)]
  simp only [Option.bind_some]
  by_cases h1 : chkT t = 0
  · by_cases h2 : l.length < 2
    · simp [h1, h2, show (l.length : Int) < 2 by omega]
    · rw [f60_eq hs hl hN]
      simp [h1, h2, show ¬ (l.length : Int) < 2 by omega]
  · simp [h1]
theorem codT_ok {t : List (List Int)} {l : List Int} : codT t l = 0 ↔ Lat t ∧ 2 ≤ l.length ∧ l.length ≤ 12 ∧ Dig t l := by
  unfold codT
  by_cases h1 : chkT t = 0
  · rw [if_neg (by simp [h1])]
    by_cases h2 : l.length < 2
    · rw [if_pos h2]
      exact ⟨fun h => absurd h (by decide), fun h => by omega⟩
    · rw [if_neg h2, digT_ok]
      exact ⟨fun h => ⟨h.1, by omega, h.2⟩, fun h => ⟨h.1, h.2.2⟩⟩
  · rw [if_pos h1, ← chkT_good]
    exact ⟨fun h => absurd h h1, fun h => absurd h.1 h1⟩
open Classical in
/-- a right code -/
noncomputable def rightT (t : List (List Int)) (l : List Int) : Int := if codT t l = 0 then if dl t 0 l = 0 then 0 else 13 else codT t l
theorem f27_eq {N : Nat} {t : List (List Int)} {l : List Int} (hs : Small t) (hl : l.length ≤ 40) (hN : 500 ≤ N) : f27 N t l = some (rightT t l) := by
  unfold f27 rightT
  rw [f63_eq hs (by omega) hN]
  simp only [Option.bind_some]
  by_cases h : codT t l = 0
  · obtain ⟨h1, h2, h3, h4⟩ := codT_ok.1 h
    have h0 := h1.two
    have := f59_eq (N := N) h1.toSq h4 (show 0 < t.length by omega) (by omega) (by omega)
    rw [show ((0 : Nat) : Int) = 0 from rfl] at this
    rw [this]
    by_cases h5 : dl t 0 l = 0 <;> simp [h, h5]
  · simp [h]
theorem f28_eq {N : Nat} {t : List (List Int)} {l : List Int} (hs : Small t) (hl : l.length ≤ 40) (hN : 500 ≤ N) : f28 N t l = some (rightT t l) := by
  unfold f28 rightT
  rw [f66_eq hs (by omega) hN]
  simp only [Option.bind_some]
  by_cases h : codT t l = 0
  · obtain ⟨h1, h2, h3, h4⟩ := codT_ok.1 h
    rw [f61_eq h1 h4 (by omega) (by omega)]
    by_cases h5 : dl t 0 l = 0 <;> simp [h, h5]
  · simp [h]
/-- digits with one of them changed -/
theorem set_split {l : List Int} {k : Nat} (h : k < l.length) (d : Int) : l.set k d = l.take k ++ d :: l.drop (k + 1) := by
  rw [List.set_eq_take_append_cons_drop, if_pos h]
theorem Dig.take {t : List (List Int)} {l : List Int} (h : Dig t l) (k : Nat) : Dig t (l.take k) := fun x hx => h x (List.mem_of_mem_take hx)
theorem Dig.drop {t : List (List Int)} {l : List Int} (h : Dig t l) (k : Nat) : Dig t (l.drop k) := fun x hx => h x (List.mem_of_mem_drop hx)
theorem Dig.set {t : List (List Int)} {l : List Int} (h : Dig t l) {k : Nat} {d : Int} (hd : 0 ≤ d ∧ d < t.length) : Dig t (l.set k d) := fun x hx => by
  rcases List.mem_or_eq_of_mem_set hx with hx | rfl
  · exact h x hx
  · exact hd
theorem dl_set {t : List (List Int)} {l : List Int} {k d : Nat} (h : k < l.length) : dl t 0 (l.set k (d : Int)) = dl t (en t (dl t 0 (l.take k)) d).toNat (l.drop (k + 1)) := by
  rw [set_split h, dl_append, dl_cons]; rfl
theorem f67_eq {N : Nat} {l : List Int} {k : Nat} {d : Int} (hl : l.length ≤ 50) (hk : k < l.length) : f67 N l (k : Int) d = some (l.set k d) := by
  unfold f67
  rw [app_ok (by simp; omega) (by simp; omega)]
  simp only [List.nil_append, Option.bind_some, ix_get hk]
  unfold setx
  rw [if_pos ⟨by omega, by omega⟩]
  simp
open Classical in
noncomputable def resT (t : List (List Int)) (l : List Int) (at' : Int) : Int := if codT t l ≠ 0 then codT t l else if 0 ≤ at' ∧ at' < l.length then 0 else 5
theorem sub_pre {l : List Int} {k : Nat} (hk : k ≤ l.length) : sub l 0 (k : Int) = some (l.take k) := by
  have := sub_nat (l := l) (a := 0) (b := k) (by omega) hk
  simpa using this
theorem sub_post {l : List Int} {k : Nat} (hk : k ≤ l.length) : sub l (k : Int) (l.length : Int) = some (l.drop k) := by
  have := sub_nat (l := l) (a := k) (b := l.length) hk (by omega)
  simpa using this
theorem f65_eq {N : Nat} {t : List (List Int)} {l : List Int} {k : Nat} (h1 : Lat t) (h4 : Dig t l) (hl : l.length ≤ 40) (hk : k < l.length) (hN : 500 ≤ N) :
    ∃ d : Nat, d < t.length ∧ dl t 0 (l.set k (d : Int)) = 0 ∧ f65 N t l (k : Int) = some (d : Int) := by
  have h0 := h1.two
  have hlen := h1.hi
  have hsk : dl t 0 (l.take k) < t.length := dl_lt h1.toSq (by omega) (h4.take k)
  obtain ⟨m, hm, hm2⟩ := h1.digit hsk (h4.drop (k + 1)) (y := 0) (by omega)
  have a1 := loop_find (F := f65_i205_2 t l (k : Int) N (row t (dl t 0 (l.take k))) (f65_i205_c7 t l (k : Int))) (k := fun i => some ((i : Nat) : Int)) (p := fun i => dl t 0 (l.set k (i : Int)) = 0) m (by rw [dl_set hk]; exact hm2) (by
    intro n i hi hp
    conv => lhs; unfold f65_i205_2 f65_i205_2b
    have r := h1.lo _ i hsk (by omega)
    have hq : f59 N t (en t (dl t 0 (l.take k)) i) (l.drop (k + 1)) = some ((dl t 0 (l.set k (i : Int)) : Nat) : Int) := by
      rw [dl_set hk]
      have := f59_eq (N := N) h1.toSq (h4.drop (k + 1)) (show (en t (dl t 0 (l.take k)) i).toNat < t.length by omega) (by simp; omega) (by omega)
      rw [show (((en t (dl t 0 (l.take k)) i).toNat : Nat) : Int) = en t (dl t 0 (l.take k)) i by omega] at this
      exact this
    simp only [h1.len _ hsk, show (i : Int) < (t.length : Int) by omega, decide_true, cond_true, h1.ix hsk (show i < t.length by omega), Option.bind_some, W_nat (show k < 9223372036854775807 by omega), sub_post (show k + 1 ≤ l.length by omega), hq,
      show ¬ ((dl t 0 (l.set k (i : Int)) : Nat) : Int) = 0 by omega, decide_false, cond_false]
    rw [W_nat (by omega)]) (by
    intro n i hi hp
    conv => lhs; unfold f65_i205_2 f65_i205_2b
    have r := h1.lo _ i hsk (by omega)
    have hq : f59 N t (en t (dl t 0 (l.take k)) i) (l.drop (k + 1)) = some ((dl t 0 (l.set k (i : Int)) : Nat) : Int) := by
      rw [dl_set hk]
      have := f59_eq (N := N) h1.toSq (h4.drop (k + 1)) (show (en t (dl t 0 (l.take k)) i).toNat < t.length by omega) (by simp; omega) (by omega)
      rw [show (((en t (dl t 0 (l.take k)) i).toNat : Nat) : Int) = en t (dl t 0 (l.take k)) i by omega] at this
      exact this
    simp only [h1.len _ hsk, show (i : Int) < (t.length : Int) by omega, decide_true, cond_true, h1.ix hsk (show i < t.length by omega), Option.bind_some, W_nat (show k < 9223372036854775807 by omega), sub_post (show k + 1 ≤ l.length by omega), hq,
      show ((dl t 0 (l.set k (i : Int)) : Nat) : Int) = 0 by omega]) N 0 (by omega) (by omega)
  obtain ⟨j, _, hj, pj, _, ej⟩ := a1
  refine ⟨j, by omega, pj, ?_⟩
  unfold f65
  rw [sub_pre (by omega)]
  simp only [Option.bind_some]
  have := f59_eq (N := N) h1.toSq (h4.take k) (show 0 < t.length by omega) (by simp; omega) (by omega)
  rw [show ((0 : Nat) : Int) = 0 from rfl] at this
  rw [this]
  simp only [Option.bind_some, ix_row hsk, joinK]
  exact ej
theorem fix1 {t : List (List Int)} {l : List Int} {k i j : Nat} (h1 : Lat t) (h4 : Dig t l) (hk : k < l.length) (hi : i < t.length) (hj : j < t.length) (e1 : dl t 0 (l.set k (i : Int)) = 0) (e2 : dl t 0 (l.set k (j : Int)) = 0) : i = j := by
  have h0 := h1.two
  rw [dl_set hk] at e1 e2
  exact h1.digit1 (dl_lt h1.toSq (by omega) (h4.take k)) (h4.drop (k + 1)) hi hj (e1.trans e2.symm)
theorem restore_eq {N : Nat} {t : List (List Int)} {l : List Int} {a : Int} (hs : Small t) (hl : l.length ≤ 40) (hN : 500 ≤ N) :
    ∃ r, f25 N t l a = some r ∧ f26 N t l a = some r ∧ (resT t l a ≠ 0 → r = (0, resT t l a)) ∧ (resT t l a = 0 → r.2 = 0 ∧ ∃ d : Nat, d < t.length ∧ r.1 = (d : Int) ∧ dl t 0 (l.set a.toNat (d : Int)) = 0) := by
  unfold f25 f26 resT
  rw [f63_eq hs (by omega) hN, f66_eq hs (by omega) hN]
  simp only [Option.bind_some, joinK]
  by_cases h : codT t l = 0
  · obtain ⟨h1, h2, h3, h4⟩ := codT_ok.1 h
    have h0 := h1.two
    have hlen := h1.hi
    rw [f64_eq, f57_eq, if_neg (by simp [h])]
    simp only [h, not_true_eq_false, decide_false, decide_true, cond_false, cond_true, Option.bind_some, W_sub1 (show l.length ≤ 1000000 by omega)]
    by_cases h5 : 0 ≤ a ∧ a < l.length
    · rw [if_pos h5, show decide (0 ≤ a ∧ a ≤ (l.length : Int) - 1) = true by simp only [decide_eq_true_eq]; omega]
      simp only [Bool.not_true, cond_false]
      obtain ⟨k, rfl⟩ : ∃ k : Nat, a = (k : Int) := ⟨a.toNat, by omega⟩
      have hk : k < l.length := by omega
      obtain ⟨d, hd, pd, ed⟩ := f65_eq (N := N) h1 h4 hl hk hN
      rw [ed]
      unfold f26_c4
      simp only [not_true_eq_false, decide_false, cond_false, joinK, Option.bind_some]
      have a2 := loop_find (F := f26_7 t l (k : Int) N f26_c9) (k := fun i => f26_c9 ((i : Nat) : Int)) (p := fun i => dl t 0 (l.set k (i : Int)) = 0) d pd (by
        intro n i hi hp
        conv => lhs; unfold f26_7 f26_7b
        rw [f67_eq (by omega) hk]
        simp only [Option.bind_some]
        rw [f61_eq h1 (h4.set (by omega)) (by simp; omega) (by omega)]
        simp only [Option.bind_some, show ¬ ((dl t 0 (l.set k (i : Int)) : Nat) : Int) = 0 by omega, not_false_eq_true, decide_true, cond_true]
        rw [W_nat (by omega)]) (by
        intro n i hi hp
        conv => lhs; unfold f26_7 f26_7b
        rw [f67_eq (by omega) hk]
        simp only [Option.bind_some]
        rw [f61_eq h1 (h4.set (by omega)) (by simp; omega) (by omega)]
        simp only [Option.bind_some, show ((dl t 0 (l.set k (i : Int)) : Nat) : Int) = 0 by omega, not_true_eq_false, decide_false, cond_false]) N 0 (by omega) (by omega)
      obtain ⟨j, _, hj, pj, _, ej⟩ := a2
      have := fix1 h1 h4 hk (by omega) hd pj pd
      subst this
      refine ⟨((j : Int), 0), rfl, ?_, fun hh => absurd rfl hh, fun _ => ⟨rfl, j, hd, rfl, by simpa using pd⟩⟩
      exact ej.trans rfl
    · rw [if_neg h5, show decide (0 ≤ a ∧ a ≤ (l.length : Int) - 1) = false by simp only [decide_eq_false_iff_not]; omega]
      refine ⟨(0, 5), rfl, rfl, fun _ => rfl, fun hh => absurd hh (by decide)⟩
  · rw [if_pos h]
    refine ⟨(0, codT t l), by simp [h], ?_, fun _ => rfl, fun hh => absurd hh h⟩
    simp only [h, decide_false, cond_false]
    unfold f26_c4
    simp [h]
theorem f4_true {N : Nat} {t : List (List Int)} {l : List Int} {a : Int} : f4 (N + 600) t l a = some true := by
  unfold f4
  obtain ⟨b, hb, hb2⟩ := f20_eq (N := N + 600) (t := t) (by omega)
  have hw : f15 (N + 600) = some true := f15_any (N + 540)
  rw [hb, hw]
  simp only [Option.bind_some]
  cases b with
  | true => rfl
  | false =>
    have hs := hb2 rfl
    by_cases h : 40 < (l.length : Int)
    · simp [h]
    · have hl : l.length ≤ 40 := by omega
      obtain ⟨r, h1, h2, _⟩ := digits_eq (N := N + 600) hs hl (by omega)
      obtain ⟨r2, h3, h4, _⟩ := restore_eq (N := N + 600) (a := a) hs hl (by omega)
      rw [f21_eq hs hl (by omega), f22_eq hs hl (by omega), h1, h2, h3, h4, f27_eq hs hl (by omega), f28_eq hs hl (by omega)]
      simp [h]
end Go.Vc
namespace Go.Vc
open Go.Proofs
set_option linter.unusedVariables false
set_option linter.unnecessarySimpa false
set_option linter.unusedSimpArgs false
def f69 (N : Nat) (a0 : List (List Int)) (a1 : List Int) : Option (Int) :=
 (f66 N a0 a1).bind fun x1 =>
 bif decide (x1 = (0 : Int)) then ((f61 N a0 a1).bind fun x2 =>
 bif decide (x2 = (0 : Int)) then (some ((20 : Int)))
 else (some (x1)))
 else (some (x1))
end Go.Vc
namespace Go.Vc
open Go.Proofs
set_option linter.unusedVariables false
set_option linter.unnecessarySimpa false
set_option linter.unusedSimpArgs false
def f30_c13 (out7 : List Fix) : Option ((List Fix) × Int) :=
 some (out7, (0 : Int))
def f30_c7 (a0 : List (List Int)) (a1 : List Int) (i8 : Int) (r6 : (List Fix) → Int → Option ((List Fix) × Int)) (out7' : List Fix) : Option ((List Fix) × Int) :=
 r6 (out7') (W (i8 + (1 : Int)))
def f30_9b (r9 : (List Fix) → Int → Option ((List Fix) × Int)) (a0 : List (List Int)) (a1 : List Int) (N : Nat) (i8 : Int) (k1 : (List Fix) → Option ((List Fix) × Int)) (out7' : List Fix) (d9 : Int) : Option ((List Fix) × Int) :=
 bif decide (d9 < (List.length a0 : Int)) then ((f67 N a1 i8 d9).bind fun x2 =>
 (f61 N a0 x2).bind fun x3 =>
 bif decide (x3 = (0 : Int)) then ((app 16 (out7') [(Fix.mk i8 d9)]).bind fun x4 =>
 r9 x4 (W (d9 + (1 : Int))))
 else (r9 (out7') (W (d9 + (1 : Int)))))
 else (k1 (out7'))
def f30_9 (a0 : List (List Int)) (a1 : List Int) (N : Nat) (i8 : Int) (k1 : (List Fix) → Option ((List Fix) × Int)) : Nat → (List Fix) → Int → Option ((List Fix) × Int)
  | 0, _, _ => none
  | n + 1, out7', d9 => f30_9b (f30_9 a0 a1 N i8 k1 n) a0 a1 N i8 k1 out7' d9
def f30_6b (r6 : (List Fix) → Int → Option ((List Fix) × Int)) (a0 : List (List Int)) (a1 : List Int) (N : Nat) (k0 : (List Fix) → Option ((List Fix) × Int)) (out7 : List Fix) (i8 : Int) : Option ((List Fix) × Int) :=
 bif decide (i8 < (List.length a1 : Int)) then (joinK (f30_c7 a0 a1 i8 r6) fun k1 =>
 f30_9 a0 a1 N i8 k1 N out7 (0 : Int))
 else (k0 out7)
def f30_6 (a0 : List (List Int)) (a1 : List Int) (N : Nat) (k0 : (List Fix) → Option ((List Fix) × Int)) : Nat → (List Fix) → Int → Option ((List Fix) × Int)
  | 0, _, _ => none
  | n + 1, out7, i8 => f30_6b (f30_6 a0 a1 N k0 n) a0 a1 N k0 out7 i8
def f30 (N : Nat) (a0 : List (List Int)) (a1 : List Int) : Option ((List Fix) × Int) :=
 (f69 N a0 a1).bind fun x1 =>
 bif decide (¬ x1 = (0 : Int)) then (some ([], x1))
 else (joinK f30_c13 fun k0 =>
 f30_6 a0 a1 N k0 N [] (0 : Int))
end Go.Vc
namespace Go.Vc
open Go.Proofs
set_option linter.unusedVariables false
set_option linter.unnecessarySimpa false
set_option linter.unusedSimpArgs false
def f32_c10 (out7 : List Int) : Option ((List Int) × Int) :=
 some (out7, (0 : Int))
def f32_6b (r6 : (List Int) → Int → Option ((List Int) × Int)) (a0 : List (List Int)) (a1 : List Int) (N : Nat) (k0 : (List Int) → Option ((List Int) × Int)) (out7 : List Int) (i8 : Int) : Option ((List Int) × Int) :=
 bif decide ((W (i8 + (1 : Int))) < (List.length a1 : Int)) then ((ix a1 (W (i8 + (1 : Int)))).bind fun x2 =>
 (f67 N a1 i8 x2).bind fun x3 =>
 (ix a1 i8).bind fun x4 =>
 (f67 N x3 (W (i8 + (1 : Int))) x4).bind fun x5 =>
 (f61 N a0 x5).bind fun x6 =>
 bif decide (x6 = (0 : Int)) then ((app 8 out7 [i8]).bind fun x7 =>
 r6 x7 (W (i8 + (1 : Int))))
 else (r6 out7 (W (i8 + (1 : Int)))))
 else (k0 out7)
def f32_6 (a0 : List (List Int)) (a1 : List Int) (N : Nat) (k0 : (List Int) → Option ((List Int) × Int)) : Nat → (List Int) → Int → Option ((List Int) × Int)
  | 0, _, _ => none
  | n + 1, out7, i8 => f32_6b (f32_6 a0 a1 N k0 n) a0 a1 N k0 out7 i8
def f32 (N : Nat) (a0 : List (List Int)) (a1 : List Int) : Option ((List Int) × Int) :=
 (f69 N a0 a1).bind fun x1 =>
 bif decide (¬ x1 = (0 : Int)) then (some ([], x1))
 else (joinK f32_c10 fun k0 =>
 f32_6 a0 a1 N k0 N [] (0 : Int))
end Go.Vc
namespace Go.Vc
open Go.Proofs
set_option linter.unusedVariables false
set_option linter.unnecessarySimpa false
set_option linter.unusedSimpArgs false
def f5 (N : Nat) (a0 : List (List Int)) (a1 : List Int) : Option (Bool) :=
 (f20 N a0).bind fun x1 =>
 bif x1 then ((f15 N ).bind fun x2 =>
 some (x2))
 else (bif decide ((40 : Int) < (List.length a1 : Int)) then ((f15 N ).bind fun x3 =>
 some (x3))
 else ((f29 N a0 a1).bind fun x4 =>
 (f30 N a0 a1).bind fun x5 =>
 (f31 N a0 a1).bind fun x6 =>
 (f32 N a0 a1).bind fun x7 =>
 (f33 N x4.1 x5.1).bind fun x8 =>
 bif x8 then (bif decide (x4.2 = x5.2) then ((f34 N x6.1 x7.1).bind fun x9 =>
 bif x9 then (bif decide (x6.2 = x7.2) then ((f15 N ).bind fun x10 =>
 some (x10))
 else (some (false)))
 else (some (false)))
 else (some (false)))
 else (some (false))))
end Go.Vc
/-
  PLAIN LAWS OF SERIAL, 6: fixes, and exchanged neighbours.
-/
namespace Go.Vc
set_option linter.unusedVariables false
set_option linter.unnecessarySimpa false
set_option linter.unusedSimpArgs false
set_option linter.unusedSimpArgs false
theorem f34_same {N : Nat} {a : List Int} (h : a.length ≤ 1000) (hN : 2000 ≤ N) : f34 N a a = some true := by
  unfold f34
  simp only [not_true_eq_false, decide_false, cond_false, joinK]
  rw [loop_ex0 (F := f34_4 a a f34_c8) (e := some false) (k0 := f34_c8) (p := fun _ => False) a.length]
  · rw [if_neg (by rintro ⟨_, _, h⟩; exact h)]; rfl
  · intro n i hi
    conv => lhs; unfold f34_4 f34_4b
    simp only [show (i : Int) < (a.length : Int) by omega, decide_true, cond_true, ix_get hi, Option.bind_some, not_true_eq_false, decide_false, cond_false]
    rw [W_nat (by omega)]; simp
  · intro n; (conv => lhs; unfold f34_4 f34_4b); simp
  · omega
theorem f33_same {N : Nat} {a : List Fix} (h : a.length ≤ 1000) (hN : 2000 ≤ N) : f33 N a a = some true := by
  unfold f33
  simp only [not_true_eq_false, decide_false, cond_false, joinK]
  rw [loop_ex0 (F := f33_4 a a f33_c8) (e := some false) (k0 := f33_c8) (p := fun _ => False) a.length]
  · rw [if_neg (by rintro ⟨_, _, h⟩; exact h)]; rfl
  · intro n i hi
    conv => lhs; unfold f33_4 f33_4b
    simp only [show (i : Int) < (a.length : Int) by omega, decide_true, cond_true, ix_get hi, Option.bind_some, Bool.and_self, Bool.not_true, decide_false, cond_false]
    rw [W_nat (by omega)]; simp
  · intro n; (conv => lhs; unfold f33_4 f33_4b); simp
  · omega
open Classical in
noncomputable def fixT (t : List (List Int)) (l : List Int) : Int := if codT t l = 0 then if dl t 0 l = 0 then 20 else 0 else codT t l
theorem f68_eq {N : Nat} {t : List (List Int)} {l : List Int} (hs : Small t) (hl : l.length ≤ 40) (hN : 500 ≤ N) : f68 N t l = some (fixT t l) := by
  unfold f68 fixT
  rw [f63_eq hs (by omega) hN]
  simp only [Option.bind_some]
  by_cases h : codT t l = 0
  · obtain ⟨h1, h2, h3, h4⟩ := codT_ok.1 h
    have h0 := h1.two
    have := f59_eq (N := N) h1.toSq h4 (show 0 < t.length by omega) (by omega) (by omega)
    rw [show ((0 : Nat) : Int) = 0 from rfl] at this
    rw [this]
    by_cases h5 : dl t 0 l = 0 <;> simp [h, h5]
  · simp [h]
theorem f69_eq {N : Nat} {t : List (List Int)} {l : List Int} (hs : Small t) (hl : l.length ≤ 40) (hN : 500 ≤ N) : f69 N t l = some (fixT t l) := by
  unfold f69 fixT
  rw [f66_eq hs (by omega) hN]
  simp only [Option.bind_some]
  by_cases h : codT t l = 0
  · obtain ⟨h1, h2, h3, h4⟩ := codT_ok.1 h
    rw [f61_eq h1 h4 (by omega) (by omega)]
    by_cases h5 : dl t 0 l = 0 <;> simp [h, h5]
  · simp [h]
theorem fixT_ok {t : List (List Int)} {l : List Int} : fixT t l = 0 ↔ (Lat t ∧ 2 ≤ l.length ∧ l.length ≤ 12 ∧ Dig t l) ∧ dl t 0 l ≠ 0 := by
  unfold fixT
  rw [← codT_ok]
  by_cases h : codT t l = 0
  · by_cases h2 : dl t 0 l = 0
    · simp [h, h2]
    · simp [h, h2]
  · simp [h]
/-- the digit that makes a code right -/
noncomputable def fx (t : List (List Int)) (l : List Int) (k : Nat) : Nat := Classical.epsilon fun d => d < t.length ∧ dl t 0 (l.set k ((d : Nat) : Int)) = 0
theorem fx_of {t : List (List Int)} {l : List Int} {k : Nat} (h1 : Lat t) (h4 : Dig t l) (hk : k < l.length) : fx t l k < t.length ∧ dl t 0 (l.set k ((fx t l k : Nat) : Int)) = 0 := by
  have h0 := h1.two
  obtain ⟨m, hm, hm2⟩ := h1.digit (s := dl t 0 (l.take k)) (dl_lt h1.toSq (by omega) (h4.take k)) (h4.drop (k + 1)) (y := 0) (by omega)
  exact Classical.epsilon_spec (p := fun d => d < t.length ∧ dl t 0 (l.set k ((d : Nat) : Int)) = 0) ⟨m, hm, by rw [dl_set hk]; exact hm2⟩
theorem fx_eq {t : List (List Int)} {l : List Int} {k d : Nat} (h1 : Lat t) (h4 : Dig t l) (hk : k < l.length) (hd : d < t.length) (e : dl t 0 (l.set k ((d : Nat) : Int)) = 0) : d = fx t l k := by
  obtain ⟨a, b⟩ := fx_of h1 h4 hk
  exact fix1 h1 h4 hk hd a e b
noncomputable def fxL (t : List (List Int)) (l : List Int) (m : Nat) : List Fix := (List.range m).map fun (k : Nat) => Fix.mk (k : Int) ((fx t l k : Nat) : Int)
theorem fxL_succ {t : List (List Int)} {l : List Int} {m : Nat} : fxL t l (m + 1) = fxL t l m ++ [Fix.mk (m : Int) ((fx t l m : Nat) : Int)] := by
  simp [fxL, List.range_succ]
theorem fxL_len {t : List (List Int)} {l : List Int} {m : Nat} : (fxL t l m).length = m := by simp [fxL]
open Classical in
theorem f29_eq {N : Nat} {t : List (List Int)} {l : List Int} (hs : Small t) (hl : l.length ≤ 40) (hN : 500 ≤ N) : f29 N t l = some (if fixT t l = 0 then (fxL t l l.length, (0 : Int)) else ([], fixT t l)) := by
  unfold f29
  rw [f68_eq hs hl hN]
  simp only [Option.bind_some]
  by_cases h : fixT t l = 0
  · obtain ⟨⟨h1, h2, h3, h4⟩, h5⟩ := fixT_ok.1 h
    rw [if_pos h]
    simp only [h, not_true_eq_false, decide_false, cond_false, joinK]
    obtain ⟨e1, e2⟩ := loop_inv0 (F := f29_6 t l N f29_c10) (k := f29_c10) (fun s i => s ++ [Fix.mk (i : Int) ((fx t l i : Nat) : Int)]) (fun i s => s = fxL t l i) l.length (by
      intro n s i hi h
      subst h
      conv => lhs; unfold f29_6 f29_6b
      obtain ⟨d, hd, pd, ed⟩ := f65_eq (N := N) h1 h4 hl hi hN
      have := fx_eq h1 h4 hi hd pd
      subst this
      simp only [show (i : Int) < (l.length : Int) by omega, decide_true, cond_true, ed, Option.bind_some]
      rw [app_ok (by simp [fxL_len]; omega) (by simp [fxL_len]; omega)]
      simp only [Option.bind_some]
      rw [W_nat (by omega)]) (by
      intro s i hi h
      rw [h, fxL_succ]) (by intro n s; (conv => lhs; unfold f29_6 f29_6b); simp) (n := N) (s := []) (by omega) rfl
    rw [e1, e2]; rfl
  · rw [if_neg h]; simp [h]
open Classical in
theorem f30_eq {N : Nat} {t : List (List Int)} {l : List Int} (hs : Small t) (hl : l.length ≤ 40) (hN : 500 ≤ N) : f30 N t l = some (if fixT t l = 0 then (fxL t l l.length, (0 : Int)) else ([], fixT t l)) := by
  unfold f30
  rw [f69_eq hs hl hN]
  simp only [Option.bind_some]
  by_cases h : fixT t l = 0
  · obtain ⟨⟨h1, h2, h3, h4⟩, h5⟩ := fixT_ok.1 h
    have hlen := h1.hi
    rw [if_pos h]
    simp only [h, not_true_eq_false, decide_false, cond_false, joinK]
    obtain ⟨e1, e2⟩ := loop_inv0 (F := f30_6 t l N f30_c13) (k := f30_c13) (fun s i => s ++ [Fix.mk (i : Int) ((fx t l i : Nat) : Int)]) (fun i s => s = fxL t l i) l.length (by
      intro n s i hi h
      subst h
      conv => lhs; unfold f30_6 f30_6b
      simp only [show (i : Int) < (l.length : Int) by omega, decide_true, cond_true, joinK]
      obtain ⟨e1, e2⟩ := loop_inv0 (F := f30_9 t l N (i : Int) (f30_c7 t l (i : Int) (f30_6 t l N f30_c13 n))) (k := f30_c7 t l (i : Int) (f30_6 t l N f30_c13 n))
        (fun s j => if dl t 0 (l.set i ((j : Nat) : Int)) = 0 then s ++ [Fix.mk (i : Int) ((j : Nat) : Int)] else s) (fun j s => s = if fx t l i < j then fxL t l i ++ [Fix.mk (i : Int) ((fx t l i : Nat) : Int)] else fxL t l i) t.length (by
        intro m s j hj hsj
        conv => lhs; unfold f30_9 f30_9b
        simp only [show (j : Int) < (t.length : Int) by omega, decide_true, cond_true, f67_eq (N := N) (show l.length ≤ 50 by omega) hi, Option.bind_some, f61_eq (N := N) h1 (h4.set (k := i) (d := (j : Int)) (by omega)) (by simp; omega) (by omega)]
        have hsl : s.length ≤ i + 1 := by
          rw [hsj]; split
          · simp [fxL_len]
          · rw [fxL_len]; omega
        by_cases hp : dl t 0 (l.set i ((j : Nat) : Int)) = 0
        · rw [if_pos hp]
          simp only [hp, show ((0 : Nat) : Int) = 0 from rfl, decide_true, cond_true]
          rw [app_ok (by simp; omega) (by simp; omega)]
          simp only [Option.bind_some]
          rw [W_nat (by omega)]
        · rw [if_neg hp]
          simp only [show ¬ ((dl t 0 (l.set i ((j : Nat) : Int)) : Nat) : Int) = 0 by omega, decide_false, cond_false]
          rw [W_nat (by omega)]) (by
        intro s j hj hsj
        by_cases hp : dl t 0 (l.set i ((j : Nat) : Int)) = 0
        · have := fx_eq h1 h4 hi hj hp
          rw [if_pos hp, hsj, if_neg (by omega), if_pos (by omega), this]
        · rw [if_neg hp, hsj]
          have : j ≠ fx t l i := fun hh => hp (by rw [hh]; exact (fx_of h1 h4 hi).2)
          by_cases hlt : fx t l i < j
          · rw [if_pos hlt, if_pos (by omega)]
          · rw [if_neg hlt, if_neg (by omega)]) (by intro m s; (conv => lhs; unfold f30_9 f30_9b); simp) (n := N) (s := fxL t l i) (by omega) (by rw [if_neg (by omega)])
      rw [e1, e2, if_pos (fx_of h1 h4 hi).1]
      unfold f30_c7
      rw [W_nat (by omega)]) (by
      intro s i hi h
      rw [h, fxL_succ]) (by intro n s; (conv => lhs; unfold f30_6 f30_6b); simp) (n := N) (s := []) (by omega) rfl
    rw [e1, e2]; rfl
  · rw [if_neg h]; simp [h]
/-- neighbours exchanged -/
def swp (l : List Int) (i : Nat) : List Int := (l.set i (l.getD (i + 1) 0)).set (i + 1) (l.getD i 0)
theorem swp_len {l : List Int} {i : Nat} : (swp l i).length = l.length := by simp [swp]
theorem mem_getD {l : List Int} {i : Nat} (h : i < l.length) : l.getD i 0 ∈ l := by simp [h]
theorem Dig.swp {t : List (List Int)} {l : List Int} (h : Dig t l) {i : Nat} (hi : i + 1 < l.length) : Dig t (Vc.swp l i) :=
  (h.set (h _ (mem_getD hi))).set (h _ (mem_getD (by omega)))
theorem swp_swp {l : List Int} {i : Nat} (hi : i + 1 < l.length) : swp (swp l i) i = l := by
  apply List.ext_getElem?
  intro j
  simp only [swp, List.getElem?_set, List.getD_eq_getElem?_getD, List.length_set]
  by_cases h1 : i + 1 = j
  · subst h1
    simp [hi, show i < l.length by omega]
  · by_cases h2 : i = j
    · subst h2; simp [hi, show i < l.length by omega, List.getElem?_set]
    · simp [h1, h2]
noncomputable def swL (t : List (List Int)) (l : List Int) (m : Nat) : List Int := ((List.range m).filter fun i => decide (dl t 0 (swp l i) = 0)).map fun (i : Nat) => (i : Int)
open Classical in
theorem swL_succ {t : List (List Int)} {l : List Int} {m : Nat} : swL t l (m + 1) = if dl t 0 (swp l m) = 0 then swL t l m ++ [(m : Int)] else swL t l m := by
  unfold swL
  rw [List.range_succ, List.filter_append, List.map_append]
  by_cases h : dl t 0 (swp l m) = 0 <;> simp [h]
theorem swL_len {t : List (List Int)} {l : List Int} {m : Nat} : (swL t l m).length ≤ m := by
  unfold swL
  rw [List.length_map]
  exact Nat.le_trans (List.length_filter_le _ _) (by simp)
theorem setx_nat {l : List Int} {i : Nat} {x : Int} (h : i < l.length) : setx l (i : Int) x = some (l.set i x) := by
  unfold setx; rw [if_pos ⟨by omega, by omega⟩]; simp
theorem getD_set {l : List Int} {i j : Nat} {x : Int} (h : i < l.length) : (l.set i x).getD j 0 = if i = j then x else l.getD j 0 := by
  simp only [List.getD_eq_getElem?_getD, List.getElem?_set]
  by_cases e : i = j
  · subst e; simp [h]
  · simp [e]
open Classical in
theorem f31_eq {N : Nat} {t : List (List Int)} {l : List Int} (hs : Small t) (hl : l.length ≤ 40) (hN : 500 ≤ N) : f31 N t l = some (if fixT t l = 0 then (swL t l (l.length - 1), (0 : Int)) else ([], fixT t l)) := by
  unfold f31
  rw [f68_eq hs hl hN]
  simp only [Option.bind_some]
  by_cases h : fixT t l = 0
  · obtain ⟨⟨h1, h2, h3, h4⟩, h5⟩ := fixT_ok.1 h
    have h0 := h1.two
    rw [if_pos h]
    simp only [h, not_true_eq_false, decide_false, cond_false, joinK]
    rw [demB_same (fun hh => by subst hh; simp at h2)]
    rw [app_ok (by simp; omega) (by simp; omega)]
    simp only [List.nil_append, Option.bind_some]
    unfold f31_c5
    simp only [joinK]
    have key := loop_inv0 (F := fun n s i => f31_8 t N l f31_c13 n s i l) (k := f31_c13) (fun s i => if dl t 0 (swp l i) = 0 then s ++ [(i : Int)] else s) (fun i s => s = swL t l i) (l.length - 1) (by
      intro n s i hi h
      subst h
      show f31_8 t N l f31_c13 (n + 1) (swL t l i) (i : Int) l = _
      conv => lhs; unfold f31_8 f31_8b
      have hi1 : i + 1 < l.length := by omega
      have hi0 : i < l.length := by omega
      have hW : W ((l.length : Int) - (1 : Int)) = (l.length : Int) - 1 := W_sub1 (by omega)
      have hw : W ((i : Int) + (1 : Int)) = ((i + 1 : Nat) : Int) := W_nat (by omega)
      have es : (swp l i).length = l.length := swp_len
      have e9 : (swp l i).getD (i + 1) 0 = l.getD i 0 := by
        unfold swp; rw [getD_set (by simp; omega), if_pos rfl]
      have e10 : (swp l i).getD i 0 = l.getD (i + 1) 0 := by
        unfold swp; rw [getD_set (by simp; omega), if_neg (by omega), getD_set (by omega), if_pos rfl]
      have hf := f59_eq (N := N) h1.toSq (h4.swp hi1) (show 0 < t.length by omega) (by rw [es]; omega) (by omega)
      rw [show ((0 : Nat) : Int) = 0 from rfl] at hf
      have q1 : ix (l.set i (l.getD (i + 1) 0)) (((i + 1 : Nat)) : Int) = some (l.getD (i + 1) 0) := by
        rw [ix_getD (by simp; omega), getD_set hi0, if_neg (by omega)]
      have q2 : setx (l.set i (l.getD (i + 1) 0)) ((i + 1 : Nat) : Int) (l.getD i 0) = some (swp l i) := by
        rw [setx_nat (by simp; omega)]; rfl
      have q3 : ix (swp l i) ((i + 1 : Nat) : Int) = some (l.getD i 0) := by rw [ix_getD (by omega), e9]
      have q4 : ix (swp l i) (i : Int) = some (l.getD (i + 1) 0) := by rw [ix_getD (by omega), e10]
      have q5 : setx (swp l i) (i : Int) (l.getD i 0) = some ((swp l i).set i (l.getD i 0)) := setx_nat (by omega)
      have q6 : ix ((swp l i).set i (l.getD i 0)) ((i + 1 : Nat) : Int) = some (l.getD i 0) := by
        rw [ix_getD (by simp; omega), getD_set (by omega), if_neg (by omega), e9]
      have q7 : setx ((swp l i).set i (l.getD i 0)) ((i + 1 : Nat) : Int) (l.getD (i + 1) 0) = some l := by
        rw [setx_nat (by simp; omega)]
        have := swp_swp hi1
        rw [swp, e9, e10] at this
        rw [this]
      simp only [hW, show (i : Int) < (l.length : Int) - 1 by omega, decide_true, cond_true, hw, ix_getD hi1, ix_getD hi0, Option.bind_some, setx_nat hi0, q1, q2, hf, q3, q4, q5, q6, q7]
      have hsl := swL_len (t := t) (l := l) (m := i)
      by_cases hp : dl t 0 (swp l i) = 0
      · rw [if_pos hp]
        simp only [hp, show ((0 : Nat) : Int) = 0 from rfl, decide_true, cond_true]
        rw [app_ok (by simp; omega) (by simp; omega)]
        simp only [Option.bind_some]
      · rw [if_neg hp]
        simp only [show ¬ ((dl t 0 (swp l i) : Nat) : Int) = 0 by omega, decide_false, cond_false]) (by
      intro s i hi h
      rw [h, swL_succ]) (by
      intro n s
      show f31_8 t N l f31_c13 (n + 1) s _ l = _
      conv => lhs; unfold f31_8 f31_8b
      rw [W_sub1 (by omega), show decide (((l.length - 1 : Nat) : Int) < (l.length : Int) - 1) = false by simp; omega]; rfl) (n := N) (s := []) (by omega) rfl
    obtain ⟨e1, e2⟩ := key
    have e1 : f31_8 t N l f31_c13 N [] 0 l = _ := e1
    rw [e1, e2]; rfl
  · rw [if_neg h]; simp [h]
open Classical in
theorem f32_eq {N : Nat} {t : List (List Int)} {l : List Int} (hs : Small t) (hl : l.length ≤ 40) (hN : 500 ≤ N) : f32 N t l = some (if fixT t l = 0 then (swL t l (l.length - 1), (0 : Int)) else ([], fixT t l)) := by
  unfold f32
  rw [f69_eq hs hl hN]
  simp only [Option.bind_some]
  by_cases h : fixT t l = 0
  · obtain ⟨⟨h1, h2, h3, h4⟩, h5⟩ := fixT_ok.1 h
    have h0 := h1.two
    rw [if_pos h]
    simp only [h, not_true_eq_false, decide_false, cond_false, joinK]
    obtain ⟨e1, e2⟩ := loop_inv0 (F := f32_6 t l N f32_c10) (k := f32_c10) (fun s i => if dl t 0 (swp l i) = 0 then s ++ [(i : Int)] else s) (fun i s => s = swL t l i) (l.length - 1) (by
      intro n s i hi h
      subst h
      conv => lhs; unfold f32_6 f32_6b
      have hi1 : i + 1 < l.length := by omega
      have hi0 : i < l.length := by omega
      have hw : W ((i : Int) + (1 : Int)) = ((i + 1 : Nat) : Int) := W_nat (by omega)
      have es : (swp l i).length = l.length := swp_len
      simp only [hw, show ((i + 1 : Nat) : Int) < (l.length : Int) by omega, decide_true, cond_true, ix_getD hi1, ix_getD hi0, Option.bind_some, f67_eq (N := N) (show l.length ≤ 50 by omega) hi0]
      rw [f67_eq (by simp; omega) (by simp; omega)]
      simp only [Option.bind_some]
      rw [show (l.set i (l.getD (i + 1) 0)).set (i + 1) (l.getD i 0) = swp l i from rfl, f61_eq h1 (h4.swp hi1) (by omega) (by omega)]
      simp only [Option.bind_some]
      have hsl := swL_len (t := t) (l := l) (m := i)
      by_cases hp : dl t 0 (swp l i) = 0
      · rw [if_pos hp]
        simp only [hp, show ((0 : Nat) : Int) = 0 from rfl, decide_true, cond_true]
        rw [app_ok (by simp; omega) (by simp; omega)]
        simp only [Option.bind_some]
      · rw [if_neg hp]
        simp only [show ¬ ((dl t 0 (swp l i) : Nat) : Int) = 0 by omega, decide_false, cond_false]) (by
      intro s i hi h
      rw [h, swL_succ]) (by
      intro n s
      conv => lhs; unfold f32_6 f32_6b
      rw [W_nat (by omega), show decide (((l.length - 1 + 1 : Nat) : Int) < (l.length : Int)) = false by simp; omega]; rfl) (n := N) (s := []) (by omega) rfl
    rw [e1, e2]; rfl
  · rw [if_neg h]; simp [h]
theorem f5_true {N : Nat} {t : List (List Int)} {l : List Int} : f5 (N + 2000) t l = some true := by
  unfold f5
  obtain ⟨b, hb, hb2⟩ := f20_eq (N := N + 2000) (t := t) (by omega)
  have hw : f15 (N + 2000) = some true := f15_any (N + 1940)
  rw [hb, hw]
  simp only [Option.bind_some]
  cases b with
  | true => rfl
  | false =>
    have hs := hb2 rfl
    by_cases h : 40 < (l.length : Int)
    · simp [h]
    · have hl : l.length ≤ 40 := by omega
      rw [f29_eq hs hl (by omega), f30_eq hs hl (by omega), f31_eq hs hl (by omega), f32_eq hs hl (by omega)]
      simp only [h, decide_false, cond_false, Option.bind_some]
      have hsl := swL_len (t := t) (l := l) (m := l.length - 1)
      rw [f33_same (by split <;> simp [fxL_len]; omega) (by omega), f34_same (by split <;> simp; omega) (by omega)]
      simp
end Go.Vc
namespace Go.Vc
open Go.Proofs
set_option linter.unusedVariables false
set_option linter.unnecessarySimpa false
set_option linter.unusedSimpArgs false
def f36_c19 (a0 : List (List Int)) (N : Nat) (v11 : List Int) : Option ((List Int) × Int) :=
 (f24 N a0 v11).bind fun x4 =>
 (app 8 v11 [x4.1]).bind fun x5 =>
 some (x5, (0 : Int))
def f36_15b (r15 : Int → (List Int) → Int → Option ((List Int) × Int)) (a0 : List (List Int)) (k0 : (List Int) → Option ((List Int) × Int)) (v2 : Int) (v11 : List Int) (v12 : Int) : Option ((List Int) × Int) :=
 bif decide ((0 : Int) ≤ v12) then ((chk (decide ((List.length a0 : Int) ≠ 0))).bind fun _ =>
 (ix v11 v12).bind fun x6 =>
 (setx v11 v12 (Int.tmod v2 (List.length a0 : Int))).bind fun x7 =>
 (chk (decide ((List.length a0 : Int) ≠ 0))).bind fun _ =>
 r15 (W (Int.tdiv v2 (List.length a0 : Int))) x7 (W (v12 - (1 : Int))))
 else (k0 v11)
def f36_15 (a0 : List (List Int)) (k0 : (List Int) → Option ((List Int) × Int)) : Nat → Int → (List Int) → Int → Option ((List Int) × Int)
  | 0, _, _, _ => none
  | n + 1, v2, v11, v12 => f36_15b (f36_15 a0 k0 n) a0 k0 v2 v11 v12
def f36_c11 (a0 : List (List Int)) (a1 : Int) (a2 : Int) (N : Nat) (v9 : Int) : Option ((List Int) × Int) :=
 (f57 N a2 (0 : Int) (W (v9 - (1 : Int)))).bind fun x2 =>
 bif !x2 then (some ([], (4 : Int)))
 else ((mkS 8 (0 : Int) (W (a1 - (1 : Int))) (W (a1 - (1 : Int)))).bind fun x3 =>
 joinK (f36_c19 a0 N) fun k0 =>
 f36_15 a0 k0 N a2 x3 (W (a1 - (2 : Int))))
def f36_8b (r8 : Int → Int → Option ((List Int) × Int)) (a0 : List (List Int)) (a1 : Int) (a2 : Int) (k1 : Int → Option ((List Int) × Int)) (v9 : Int) (v10 : Int) : Option ((List Int) × Int) :=
 bif decide (v10 < a1) then (r8 (W (v9 * (List.length a0 : Int))) (W (v10 + (1 : Int))))
 else (k1 v9)
def f36_8 (a0 : List (List Int)) (a1 : Int) (a2 : Int) (k1 : Int → Option ((List Int) × Int)) : Nat → Int → Int → Option ((List Int) × Int)
  | 0, _, _ => none
  | n + 1, v9, v10 => f36_8b (f36_8 a0 a1 a2 k1 n) a0 a1 a2 k1 v9 v10
def f36_c4 (a0 : List (List Int)) (a1 : Int) (a2 : Int) (N : Nat) (v8 : Int) : Option ((List Int) × Int) :=
 bif decide (¬ v8 = (0 : Int)) then (some ([], v8))
 else (joinK (f36_c11 a0 a1 a2 N) fun k1 =>
 f36_8 a0 a1 a2 k1 N (1 : Int) (1 : Int))
def f36 (N : Nat) (a0 : List (List Int)) (a1 : Int) (a2 : Int) : Option ((List Int) × Int) :=
 (f50 N a0).bind fun x1 =>
 joinK (f36_c4 a0 a1 a2 N) fun k2 =>
 bif decide (x1 = (0 : Int)) then ((f57 N a1 (2 : Int) (12 : Int)).bind fun x8 =>
 bif !x8 then (k2 (3 : Int))
 else (k2 x1))
 else (k2 x1)
end Go.Vc
namespace Go.Vc
open Go.Proofs
set_option linter.unusedVariables false
set_option linter.unnecessarySimpa false
set_option linter.unusedSimpArgs false
def f38_c9 (n7 : Int) : Option (Int × Int) :=
 some (n7, (0 : Int))
def f38_6b (r6 : Int → Int → Option (Int × Int)) (a0 : List (List Int)) (a1 : List Int) (k0 : Int → Option (Int × Int)) (n7 : Int) (i8 : Int) : Option (Int × Int) :=
 bif decide ((W (i8 + (1 : Int))) < (List.length a1 : Int)) then ((ix a1 i8).bind fun x2 =>
 r6 (W ((W (n7 * (List.length a0 : Int))) + x2)) (W (i8 + (1 : Int))))
 else (k0 n7)
def f38_6 (a0 : List (List Int)) (a1 : List Int) (k0 : Int → Option (Int × Int)) : Nat → Int → Int → Option (Int × Int)
  | 0, _, _ => none
  | n + 1, n7, i8 => f38_6b (f38_6 a0 a1 k0 n) a0 a1 k0 n7 i8
def f38 (N : Nat) (a0 : List (List Int)) (a1 : List Int) : Option (Int × Int) :=
 (f28 N a0 a1).bind fun x1 =>
 bif decide (¬ x1 = (0 : Int)) then (some ((0 : Int), x1))
 else (joinK f38_c9 fun k0 =>
 f38_6 a0 a1 k0 N (0 : Int) (0 : Int))
end Go.Vc
namespace Go.Vc
open Go.Proofs
set_option linter.unusedVariables false
set_option linter.unnecessarySimpa false
set_option linter.unusedSimpArgs false
def f6 (N : Nat) (a0 : List (List Int)) (a1 : Int) (a2 : Int) (a3 : List Int) : Option (Bool) :=
 (f20 N a0).bind fun x1 =>
 bif x1 then ((f15 N ).bind fun x2 =>
 some (x2))
 else (bif decide ((40 : Int) < (List.length a3 : Int)) then ((f15 N ).bind fun x3 =>
 some (x3))
 else ((f35 N a0 a1 a2).bind fun x4 =>
 (f36 N a0 a1 a2).bind fun x5 =>
 (f37 N a0 a3).bind fun x6 =>
 (f38 N a0 a3).bind fun x7 =>
 (f34 N x4.1 x5.1).bind fun x8 =>
 bif x8 then (bif decide (x4.2 = x5.2) then (bif decide (x6.1 = x7.1) then (bif decide (x6.2 = x7.2) then ((f15 N ).bind fun x9 =>
 some (x9))
 else (some (false)))
 else (some (false)))
 else (some (false)))
 else (some (false))))
end Go.Vc
/-
  PLAIN LAWS OF SERIAL, 7: codes of numbers, and numbers of codes.
-/
namespace Go.Vc
set_option linter.unusedVariables false
set_option linter.unnecessarySimpa false
set_option linter.unusedSimpArgs false
set_option linter.unusedSimpArgs false
/-- the low digits of a number -/
def lw (n : Nat) : Nat → Nat → List Int
  | 0, _ => []
  | j + 1, v => (((v / n ^ j) % n : Nat) : Int) :: lw n j v
theorem lw_len {n j v : Nat} : (lw n j v).length = j := by
  induction j with
  | zero => rfl
  | succ j ih => simp [lw, ih]
theorem lw_dig {t : List (List Int)} (h : 0 < t.length) {j v : Nat} : Dig t (lw t.length j v) := by
  induction j with
  | zero => intro x hx; cases hx
  | succ j ih =>
    intro x hx
    rcases List.mem_cons.1 hx with rfl | hx
    · have := Nat.mod_lt (v / t.length ^ j) h; omega
    · exact ih x hx
theorem fill {l : List Int} {a : Nat} {d : Int} : (List.replicate (a + 1) (0 : Int) ++ l).set a d = List.replicate a 0 ++ d :: l := by
  rw [List.replicate_succ', List.append_assoc, List.set_append, if_neg (by simp)]
  simp
theorem tmod_nat (a b : Nat) : Int.tmod (a : Int) (b : Int) = ((a % b : Nat) : Int) := rfl
theorem tdiv_nat (a b : Nat) : Int.tdiv (a : Int) (b : Int) = ((a / b : Nat) : Int) := rfl
theorem div_pow {v n j : Nat} : v / n ^ j / n = v / n ^ (j + 1) := by rw [Nat.div_div_eq_div_mul, Nat.pow_succ]
theorem chk_pos {n : Nat} (h : 0 < n) : chk (decide ((n : Int) ≠ 0)) = some () := by
  rw [show decide ((n : Int) ≠ 0) = true by simp; omega]; rfl
theorem f35_loop {t : List (List Int)} {k v : Nat} {x3 : List Int} {N : Nat} {k0 : Int → List Int → Option (List Int × Int)} (h0 : 0 < t.length) (hk : x3.length = k) (hk2 : k ≤ 20) (hv : (v : Int) ≤ 9223372036854775807) :
    ∀ n j, j ≤ k → k - j < n → f35_10 t x3 k0 n ((v / t.length ^ j : Nat) : Int) (List.replicate (k - j) 0 ++ lw t.length j v) (j : Int) = k0 ((v / t.length ^ k : Nat) : Int) (lw t.length k v) := by
  intro n
  induction n with
  | zero => intro j _ h; omega
  | succ n ih =>
    intro j hj hn
    conv => lhs; unfold f35_10 f35_10b
    by_cases e : j = k
    · subst e
      simp [hk]
    · have hlen : (List.replicate (k - j) (0 : Int) ++ lw t.length j v).length = k := by simp [lw_len]; omega
      obtain ⟨a, ha⟩ : ∃ a, k - j = a + 1 := ⟨k - j - 1, by omega⟩
      have hw1 : W ((k : Int) - 1) = (k : Int) - 1 := W_sub1 (by omega)
      have hw2 : W ((k : Int) - 1 - (j : Int)) = (a : Int) := by rw [show (k : Int) - 1 - (j : Int) = (a : Int) by omega]; exact W_of (by omega) (by omega)
      rw [hk, show decide ((j : Int) < (k : Int)) = true by simp; omega]
      simp only [cond_true, chk_pos h0, Option.bind_some, hlen, hw1, hw2]
      rw [ix_getD (by omega), ha]
      simp only [Option.bind_some, tmod_nat, tdiv_nat]
      rw [setx_nat (by simp; omega), fill]
      simp only [Option.bind_some]
      have hd : W ((v / t.length ^ j / t.length : Nat) : Int) = ((v / t.length ^ (j + 1) : Nat) : Int) := by
        rw [div_pow]
        have hq := Nat.div_le_self v (t.length ^ (j + 1))
        generalize v / t.length ^ (j + 1) = q at hq ⊢
        exact W_of (by omega) (by omega)
      rw [hd, W_nat (by omega)]
      have := ih (j + 1) (by omega) (by omega)
      rw [show k - (j + 1) = a by omega] at this
      exact this
theorem f36_loop {t : List (List Int)} {k v : Nat} {k0 : List Int → Option (List Int × Int)} (h0 : 0 < t.length) (hk2 : k ≤ 20) (hv : (v : Int) ≤ 9223372036854775807) :
    ∀ n j, j ≤ k → k - j < n → f36_15 t k0 n ((v / t.length ^ j : Nat) : Int) (List.replicate (k - j) 0 ++ lw t.length j v) ((k : Int) - 1 - (j : Int)) = k0 (lw t.length k v) := by
  intro n
  induction n with
  | zero => intro j _ h; omega
  | succ n ih =>
    intro j hj hn
    conv => lhs; unfold f36_15 f36_15b
    by_cases e : j = k
    · subst e
      rw [show decide ((0 : Int) ≤ (j : Int) - 1 - (j : Int)) = false by simp; omega]
      simp
    · have hlen : (List.replicate (k - j) (0 : Int) ++ lw t.length j v).length = k := by simp [lw_len]; omega
      obtain ⟨a, ha⟩ : ∃ a, k - j = a + 1 := ⟨k - j - 1, by omega⟩
      have hw2 : W ((a : Int) - 1) = (a : Int) - 1 := W_sub1 (by omega)
      rw [show (k : Int) - 1 - (j : Int) = (a : Int) by omega, show decide ((0 : Int) ≤ (a : Int)) = true by simp]
      simp only [cond_true, chk_pos h0, Option.bind_some]
      rw [ix_getD (by omega), ha]
      simp only [Option.bind_some, tmod_nat, tdiv_nat]
      rw [setx_nat (by simp; omega), fill]
      simp only [Option.bind_some]
      have hd : W ((v / t.length ^ j / t.length : Nat) : Int) = ((v / t.length ^ (j + 1) : Nat) : Int) := by
        rw [div_pow]
        have hq := Nat.div_le_self v (t.length ^ (j + 1))
        generalize v / t.length ^ (j + 1) = q at hq ⊢
        exact W_of (by omega) (by omega)
      rw [hd, hw2]
      have := ih (j + 1) (by omega) (by omega)
      rw [show k - (j + 1) = a by omega, show (k : Int) - 1 - ((j + 1 : Nat) : Int) = (a : Int) - 1 by omega] at this
      exact this
theorem pow_le {n k : Nat} (hn : n ≤ 10) (hk : k ≤ 11) : n ^ k ≤ 100000000000 :=
  Nat.le_trans (Nat.pow_le_pow_left hn k) (Nat.le_trans (Nat.pow_le_pow_right (by omega) hk) (by decide))
theorem f36_prod {t : List (List Int)} {k : Nat} {a2 : Int} {k1 : Int → Option (List Int × Int)} (hn : t.length ≤ 10) (h0 : 0 < t.length) (hk : k ≤ 11) :
    ∀ n j, j ≤ k → k - j < n → f36_8 t ((k + 1 : Nat) : Int) a2 k1 n ((t.length ^ j : Nat) : Int) ((j + 1 : Nat) : Int) = k1 ((t.length ^ k : Nat) : Int) := by
  intro n
  induction n with
  | zero => intro j _ h; omega
  | succ n ih =>
    intro j hj hn'
    conv => lhs; unfold f36_8 f36_8b
    by_cases e : j = k
    · subst e; simp
    · rw [show decide (((j + 1 : Nat) : Int) < ((k + 1 : Nat) : Int)) = true by simp; omega]
      simp only [cond_true]
      have h2 := pow_le hn (show j + 1 ≤ 11 by omega)
      have hw : W (((t.length ^ j : Nat) : Int) * (t.length : Int)) = ((t.length ^ (j + 1) : Nat) : Int) := by
        rw [show ((t.length ^ j : Nat) : Int) * (t.length : Int) = ((t.length ^ (j + 1) : Nat) : Int) by rw [Nat.pow_succ]; simp]
        exact W_of (by omega) (by omega)
      rw [hw, W_nat (by omega)]
      exact ih (j + 1) (by omega) (by omega)
open Classical in
/-- the code of a number: what is wrong with it -/
noncomputable def cdT (t : List (List Int)) (size number : Int) : Int :=
  if chkT t ≠ 0 then chkT t else if ¬ (2 ≤ size ∧ size ≤ 12) then 3 else if 0 ≤ number ∧ number < ((t.length ^ (size.toNat - 1) : Nat) : Int) then 0 else 4
/-- the check digit of digits -/
noncomputable def cd (t : List (List Int)) (l : List Int) : Nat := Classical.epsilon fun d => d < t.length ∧ en t (dl t 0 l) d = 0
theorem cd_of {t : List (List Int)} {l : List Int} (h1 : Lat t) (h4 : Dig t l) : cd t l < t.length ∧ en t (dl t 0 l) (cd t l) = 0 := by
  have h0 := h1.two
  have hs := dl_lt (s := 0) h1.toSq (by omega) h4
  obtain ⟨m, hm, hm2⟩ := h1.digit (s := dl t 0 l) hs (post := []) (fun x hx => by cases hx) (y := 0) (by omega)
  exact Classical.epsilon_spec (p := fun d => d < t.length ∧ en t (dl t 0 l) d = 0) ⟨m, hm, by have := h1.lo _ m hs hm; rw [dl_nil] at hm2; omega⟩
theorem cd_eq {t : List (List Int)} {l : List Int} {d : Nat} (h1 : Lat t) (h4 : Dig t l) (hd : d < t.length) (e : en t (dl t 0 l) d = 0) : d = cd t l := by
  obtain ⟨a, b⟩ := cd_of h1 h4
  have h0 := h1.two
  exact h1.rowInj (dl_lt (s := 0) h1.toSq (by omega) h4) hd a (e.trans b.symm)
theorem digit_cd {N : Nat} {t : List (List Int)} {l : List Int} (hs : Small t) (h1 : Lat t) (h4 : Dig t l) (hl : l.length ≤ 12) (hN : 500 ≤ N) : f23 N t l = some (((cd t l : Nat) : Int), 0) ∧ f24 N t l = some (((cd t l : Nat) : Int), 0) := by
  obtain ⟨r, e1, e2, _, e3⟩ := digits_eq (N := N) hs (show l.length ≤ 40 by omega) hN
  obtain ⟨e4, d, hd, e5, e6⟩ := e3 (digT_ok.2 ⟨h1, hl, h4⟩)
  have := cd_eq h1 h4 hd e6
  subst this
  have : r = (((cd t l : Nat) : Int), 0) := Prod.ext e5 e4
  subst this
  exact ⟨e1, e2⟩
noncomputable def cdL (t : List (List Int)) (k v : Nat) : List Int := lw t.length k v ++ [((cd t (lw t.length k v) : Nat) : Int)]
theorem mkS_nat {k : Nat} (hk : k ≤ 1000) : mkS 8 (0 : Int) (k : Int) (k : Int) = some (List.replicate k 0) := by
  unfold mkS
  rw [if_pos ⟨by omega, by omega, by omega⟩]; simp
open Classical in
theorem code_eq {N : Nat} {t : List (List Int)} {size number : Int} (hs : Small t) (hv : number ≤ 9223372036854775807) (hN : 500 ≤ N) :
    f35 N t size number = some (if cdT t size number = 0 then (cdL t (size.toNat - 1) number.toNat, (0 : Int)) else ([], cdT t size number)) ∧
    f36 N t size number = some (if cdT t size number = 0 then (cdL t (size.toNat - 1) number.toNat, (0 : Int)) else ([], cdT t size number)) := by
  unfold f35 f36 cdT
  rw [f49_eq hs hN, f50_eq hs.1 (by omega)]
  simp only [Option.bind_some, joinK]
  by_cases h : chkT t = 0
  · have h1 := chkT_good.1 h
    have h0 := h1.two
    have hlen := h1.hi
    simp only [h, ne_eq, not_true_eq_false, decide_false, decide_true, cond_false, cond_true, f64_eq, f57_eq, Option.bind_some, if_false]
    by_cases h2 : 2 ≤ size ∧ size ≤ 12
    · obtain ⟨k, rfl⟩ : ∃ k : Nat, size = ((k + 1 : Nat) : Int) := ⟨size.toNat - 1, by omega⟩
      have hk1 : 1 ≤ k := by omega
      have hk2 : k ≤ 11 := by omega
      have hwk : W (((k + 1 : Nat) : Int) - 1) = (k : Int) := by rw [show ((k + 1 : Nat) : Int) - 1 = (k : Int) by omega]; exact W_of (by omega) (by omega)
      have hwk2 : W (((k + 1 : Nat) : Int) - 2) = (k : Int) - 1 := by rw [show ((k + 1 : Nat) : Int) - 2 = (k : Int) - 1 by omega]; exact W_of (by omega) (by omega)
      have hpl := pow_le hlen hk2
      simp only [show decide ((2 : Int) ≤ ((k + 1 : Nat) : Int) ∧ ((k + 1 : Nat) : Int) ≤ 12) = true by simp only [decide_eq_true_eq]; exact h2, Bool.not_true, cond_false, hwk, mkS_nat (show k ≤ 1000 by omega), Option.bind_some,
        show ((k + 1 : Nat) : Int).toNat - 1 = k by omega, h2, and_self, not_true_eq_false, if_false, decide_true, Bool.not_true]
      have hf36 : f36_c4 t ((k + 1 : Nat) : Int) number N 0 = f36_c11 t ((k + 1 : Nat) : Int) number N ((t.length ^ k : Nat) : Int) := by
        unfold f36_c4
        simp only [not_true_eq_false, decide_false, cond_false, joinK]
        have := f36_prod (t := t) (k := k) (a2 := number) (k1 := f36_c11 t ((k + 1 : Nat) : Int) number N) hlen (by omega) hk2 N 0 (by omega) (by omega)
        exact this
      rw [hf36]
      unfold f36_c11
      rw [f57_eq]
      have hwp : W (((t.length ^ k : Nat) : Int) - 1) = ((t.length ^ k : Nat) : Int) - 1 := W_of (by omega) (by omega)
      simp only [Option.bind_some, hwp, hwk, hwk2, mkS_nat (show k ≤ 1000 by omega), joinK]
      by_cases h3 : number < 0
      · rw [if_neg (show ¬ (0 ≤ number ∧ number < ((t.length ^ k : Nat) : Int)) by omega)]
        simp only [h3, decide_true, cond_true]
        rw [show decide (0 ≤ number ∧ number ≤ ((t.length ^ k : Nat) : Int) - 1) = false by simp only [decide_eq_false_iff_not]; omega]
        exact ⟨rfl, rfl⟩
      · obtain ⟨v, rfl⟩ : ∃ v : Nat, number = (v : Int) := ⟨number.toNat, by omega⟩
        simp only [h3, decide_false, cond_false]
        have hd : Dig t (lw t.length k v) := lw_dig (by omega)
        obtain ⟨q1, q2⟩ := digit_cd (N := N) hs h1 hd (by rw [lw_len]; omega) hN
        have l1 := f35_loop (t := t) (k := k) (v := v) (x3 := List.replicate k 0) (N := N) (k0 := f35_c15 t N) (by omega) (by simp) (by omega) hv N 0 (by omega) (by omega)
        have l2 := f36_loop (t := t) (k := k) (v := v) (k0 := f36_c19 t N) (by omega) (by omega) hv N 0 (by omega) (by omega)
        simp only [Nat.pow_zero, Nat.div_one, Nat.sub_zero, lw, List.append_nil] at l1 l2
        rw [show ((0 : Nat) : Int) = 0 from rfl] at l1 l2
        rw [Int.sub_zero] at l2
        rw [l1]
        unfold f35_c15
        rw [q1]
        by_cases h4 : v < t.length ^ k
        · rw [if_pos (show 0 ≤ (v : Int) ∧ (v : Int) < ((t.length ^ k : Nat) : Int) from ⟨by omega, by omega⟩)]
          have : v / t.length ^ k = 0 := Nat.div_eq_of_lt h4
          rw [show decide (0 ≤ (v : Int) ∧ (v : Int) ≤ ((t.length ^ k : Nat) : Int) - 1) = true by simp only [decide_eq_true_eq]; omega, l2]
          unfold f36_c19
          rw [q2]
          simp only [this, show ((0 : Nat) : Int) = 0 from rfl, Int.lt_irrefl, decide_false, cond_false, Option.bind_some, Bool.not_true, Int.toNat_natCast, if_true]
          rw [app_ok (by simp [lw_len]; omega) (by simp [lw_len]; omega)]
          exact ⟨rfl, rfl⟩
        · rw [if_neg (show ¬ (0 ≤ (v : Int) ∧ (v : Int) < ((t.length ^ k : Nat) : Int)) by omega)]
          have : 0 < v / t.length ^ k := Nat.div_pos (by omega) (Nat.pow_pos (by omega))
          rw [show decide (0 ≤ (v : Int) ∧ (v : Int) ≤ ((t.length ^ k : Nat) : Int) - 1) = false by simp only [decide_eq_false_iff_not]; omega]
          rw [show decide ((0 : Int) < ((v / t.length ^ k : Nat) : Int)) = true by simp only [decide_eq_true_eq]; omega]
          exact ⟨rfl, rfl⟩
    · rw [if_pos h2, show decide ((2 : Int) ≤ size ∧ size ≤ 12) = false by simp only [decide_eq_false_iff_not]; exact h2]
      exact ⟨rfl, rfl⟩
  · rw [if_pos h]
    simp only [h, not_false_eq_true, decide_true, decide_false, cond_true, cond_false, if_false]
    refine ⟨trivial, ?_⟩
    unfold f36_c4
    simp [h]
/-- the number of a code -/
def nm (t : List (List Int)) (l : List Int) : Int := l.foldl (fun s x => W (W (s * (t.length : Int)) + x)) 0
theorem f37_loop {t : List (List Int)} {l : List Int} {k0 : Int → Option (Int × Int)} (hl : l.length ≤ 100) : ∀ n i (s : Int), i ≤ l.length → l.length - i < n → f37_i406_2 t l k0 n s (i : Int) = k0 ((l.drop i).foldl (fun s x => W (W (s * (t.length : Int)) + x)) s) := by
  intro n
  induction n with
  | zero => intro i s _ h; omega
  | succ n ih =>
    intro i s hi hn
    conv => lhs; unfold f37_i406_2 f37_i406_2b
    by_cases e : i = l.length
    · subst e; simp
    · have hi : i < l.length := by omega
      simp only [show (i : Int) < (l.length : Int) by omega, decide_true, cond_true, ix_get hi, Option.bind_some]
      rw [W_nat (by omega), ih (i + 1) _ hi (by omega), List.drop_eq_getElem_cons hi]; rfl
theorem f38_loop {t : List (List Int)} {l : List Int} {k0 : Int → Option (Int × Int)} (hl : l.length ≤ 100) (h1 : 1 ≤ l.length) : ∀ n i (s : Int), i ≤ l.length - 1 → l.length - i < n → f38_6 t l k0 n s (i : Int) = k0 (((l.take (l.length - 1)).drop i).foldl (fun s x => W (W (s * (t.length : Int)) + x)) s) := by
  intro n
  induction n with
  | zero => intro i s _ h; omega
  | succ n ih =>
    intro i s hi hn
    conv => lhs; unfold f38_6 f38_6b
    rw [W_nat (by omega)]
    by_cases e : i = l.length - 1
    · rw [show decide (((i + 1 : Nat) : Int) < (l.length : Int)) = false by simp; omega]
      subst e; simp
    · have hi : i < (l.take (l.length - 1)).length := by simp; omega
      have hi2 : i < l.length := by omega
      simp only [show ((i + 1 : Nat) : Int) < (l.length : Int) by omega, decide_true, cond_true, ix_get hi2, Option.bind_some]
      rw [ih (i + 1) _ (by omega) (by omega), List.drop_eq_getElem_cons hi]; simp
theorem number_eq {N : Nat} {t : List (List Int)} {l : List Int} (hs : Small t) (hl : l.length ≤ 40) (hN : 500 ≤ N) : ∃ r, f37 N t l = some r ∧ f38 N t l = some r ∧ (rightT t l = 0 → r = (nm t (l.take (l.length - 1)), 0)) := by
  unfold f37 f38
  rw [f27_eq hs hl hN, f28_eq hs hl hN]
  simp only [Option.bind_some]
  by_cases h : rightT t l = 0
  · have hc : codT t l = 0 := by
      unfold rightT at h
      by_cases hc : codT t l = 0
      · exact hc
      · rw [if_neg hc] at h; exact h
    obtain ⟨h1, h2, h3, h4⟩ := codT_ok.1 hc
    refine ⟨(nm t (l.take (l.length - 1)), 0), ?_, ?_, fun _ => rfl⟩
    · simp only [h, not_true_eq_false, decide_false, cond_false, joinK, W_sub1 (show l.length ≤ 1000000 by omega)]
      rw [show (l.length : Int) - 1 = ((l.length - 1 : Nat) : Int) by omega, sub_pre (by omega)]
      simp only [Option.bind_some]
      have := f37_loop (t := t) (l := l.take (l.length - 1)) (k0 := f37_i406_c6 t) (by simp; omega) N 0 0 (by omega) (by simp; omega)
      rw [show ((0 : Nat) : Int) = 0 from rfl] at this
      rw [this]; rfl
    · simp only [h, not_true_eq_false, decide_false, cond_false, joinK]
      have := f38_loop (t := t) (l := l) (k0 := f38_c9) (by omega) (by omega) N 0 0 (by omega) (by omega)
      rw [show ((0 : Nat) : Int) = 0 from rfl] at this
      rw [this]; rfl
  · exact ⟨(0, rightT t l), by simp [h], by simp [h], fun hh => absurd hh h⟩
theorem f6_true {N : Nat} {t : List (List Int)} {size number : Int} {l : List Int} (hv : number ≤ 9223372036854775807) : f6 (N + 2000) t size number l = some true := by
  unfold f6
  obtain ⟨b, hb, hb2⟩ := f20_eq (N := N + 2000) (t := t) (by omega)
  have hw : f15 (N + 2000) = some true := f15_any (N + 1940)
  rw [hb, hw]
  simp only [Option.bind_some]
  cases b with
  | true => rfl
  | false =>
    have hs := hb2 rfl
    by_cases h : 40 < (l.length : Int)
    · simp [h]
    · have hl : l.length ≤ 40 := by omega
      obtain ⟨e1, e2⟩ := code_eq (N := N + 2000) (size := size) hs hv (by omega)
      obtain ⟨r, e3, e4, _⟩ := number_eq (N := N + 2000) (l := l) hs hl (by omega)
      rw [e1, e2, e3, e4]
      simp only [h, decide_false, cond_false, Option.bind_some]
      rw [f34_same (by
        split
        · rename_i h0
          simp only [cdL, List.length_append, lw_len, List.length_cons, List.length_nil]
          have : size ≤ 12 := by
            unfold cdT at h0
            split at h0
            · exact absurd h0 (by assumption)
            · split at h0
              · exact absurd h0 (by decide)
              · omega
          omega
        · simp) (by omega)]
      simp
end Go.Vc
/-
  PLAIN LAWS OF SERIAL, 8: tables of plates.
-/
namespace Go.Vc
set_option linter.unusedVariables false
set_option linter.unnecessarySimpa false
set_option linter.unusedSimpArgs false
set_option linter.unusedSimpArgs false
def rng (n : Nat) : List Int := (List.range n).map fun (i : Nat) => (i : Int)
theorem rng_succ {n : Nat} : rng (n + 1) = rng n ++ [(n : Int)] := by simp [rng, List.range_succ]
theorem rng_len {n : Nat} : (rng n).length = n := by simp [rng]
theorem rng_mem {n : Nat} {x : Int} (h : x ∈ rng n) : 0 ≤ x ∧ x < n := by
  simp only [rng, List.mem_map, List.mem_range] at h
  obtain ⟨a, h1, rfl⟩ := h; omega
theorem rng_nodup {n : Nat} : (rng n).Nodup := by
  unfold rng List.Nodup
  rw [List.pairwise_map]
  exact List.Pairwise.imp (fun h => by omega) List.nodup_range
/-- five numbers of a byte each -/
def B5 (a : A5u8N) : Prop := (0 ≤ a.e0 ∧ a.e0 ≤ 255) ∧ (0 ≤ a.e1 ∧ a.e1 ≤ 255) ∧ (0 ≤ a.e2 ∧ a.e2 ≤ 255) ∧ (0 ≤ a.e3 ∧ a.e3 ≤ 255) ∧ (0 ≤ a.e4 ∧ a.e4 ≤ 255)
theorem B5.get {a : A5u8N} (h : B5 a) {k : Nat} (hk : k < 5) : ∃ x : Nat, ixN [a.e0, a.e1, a.e2, a.e3, a.e4] k = some (x : Int) := by
  obtain ⟨h0, h1, h2, h3, h4⟩ := h
  match k, hk with
  | 0, _ => exact ⟨a.e0.toNat, by simp [ixN]; omega⟩
  | 1, _ => exact ⟨a.e1.toNat, by simp [ixN]; omega⟩
  | 2, _ => exact ⟨a.e2.toNat, by simp [ixN]; omega⟩
  | 3, _ => exact ⟨a.e3.toNat, by simp [ixN]; omega⟩
  | 4, _ => exact ⟨a.e4.toNat, by simp [ixN]; omega⟩
theorem perm_step {l o : List Int} {i : Nat} (hi : i < l.length) : ((l.take i ++ l.drop (i + 1)) ++ (o ++ [l[i]])).Perm (l ++ o) := by
  rw [List.perm_iff_count]
  intro a
  have h : List.count a l = List.count a (l.take i) + List.count a (l[i] :: l.drop (i + 1)) := by
    rw [← List.count_append, ← List.drop_eq_getElem_cons hi, List.take_append_drop]
  rw [List.count_cons] at h
  simp only [List.count_append, List.count_cons, List.count_nil] at h ⊢
  omega
theorem f54_loop {a : A5u8N} (ha : B5 a) {n : Nat} (hn : n ≤ 5) : ∀ (fu : Nat) (left out : List Int), left.length < fu → left.length + out.length = n → (left ++ out).Perm (rng n) →
    ∃ l : List Int, l.Perm (rng n) ∧ f54_7 a f54_c12 fu left out (out.length : Int) = some l := by
  intro fu
  induction fu with
  | zero => intro left out h; omega
  | succ fu ih =>
    intro left out hf hl hp
    by_cases e : left.length = 0
    · have : left = [] := List.eq_nil_of_length_eq_zero e
      subst this
      refine ⟨out, by simpa using hp, ?_⟩
      conv => lhs; unfold f54_7 f54_7b
      simp [f54_c12]
    · obtain ⟨x, hx⟩ := ha.get (k := out.length) (by omega)
      have hi : x % left.length < left.length := Nat.mod_lt _ (by omega)
      generalize hq : x % left.length = i at hi
      obtain ⟨l, hl1, hl2⟩ := ih (left.take i ++ left.drop (i + 1)) (out ++ [left[i]]) (by simp; omega) (by simp; omega) ((perm_step hi).trans hp)
      refine ⟨l, hl1, ?_⟩
      conv => lhs; unfold f54_7 f54_7b
      rw [show decide ((0 : Int) < (left.length : Int)) = true by simp; omega]
      simp only [cond_true, chkI_ok (n := 5) (show 0 ≤ (out.length : Int) by omega) (by omega), Option.bind_some, Int.toNat_natCast, hx, chk_pos (show 0 < left.length by omega), tmod_nat, hq, joinK, ix_get hi]
      rw [app_ok (by simp; omega) (by simp; omega)]
      simp only [Option.bind_some]
      unfold f54_c11
      simp only [tmod_nat, hq]
      rw [sub_pre (by omega)]
      simp only [Option.bind_some]
      rw [app_ok (by simp; omega) (by simp; omega)]
      simp only [Option.bind_some, List.nil_append]
      rw [W_nat (by omega), sub_post (by omega)]
      simp only [Option.bind_some]
      rw [app_ok (by simp; omega) (by simp; omega)]
      simp only [Option.bind_some]
      rw [W_nat (by omega)]
      simpa using hl2
theorem f54_eq {N : Nat} {a : A5u8N} (ha : B5 a) {n : Nat} (hn : n ≤ 5) (hN : 30 ≤ N) : ∃ l : List Int, l.Perm (rng n) ∧ f54 N (n : Int) a = some l := by
  obtain ⟨l, h1, h2⟩ := f54_loop ha hn N (rng n) [] (by rw [rng_len]; omega) (by simp [rng_len]) (by simp)
  refine ⟨l, h1, ?_⟩
  unfold f54
  simp only [joinK]
  obtain ⟨e1, e2⟩ := loop_inv0 (F := f54_3 (n : Int) a (f54_c6 a N)) (k := f54_c6 a N) (fun s i => s ++ [(i : Int)]) (fun i s => s = rng i) n (by
    intro m s i hi h
    subst h
    conv => lhs; unfold f54_3 f54_3b
    rw [show decide ((i : Int) < (n : Int)) = true by simp; omega]
    simp only [cond_true]
    rw [app_ok (by simp [rng_len]; omega) (by simp [rng_len]; omega)]
    simp only [Option.bind_some]
    rw [W_nat (by omega)]) (by intro s i hi h; rw [h, rng_succ]) (by intro m s; (conv => lhs; unfold f54_3 f54_3b); simp) (n := N) (s := []) (by omega) rfl
  rw [e1, e2]
  unfold f54_c6
  simp only [joinK]
  exact h2
/-- the rows of a plate's table -/
def gR (n : Nat) (r c m : List Int) (s d : Nat) : Int := m.getD ((r.getD s 0 + c.getD d 0).toNat % n) 0
def rowR (n : Nat) (r c m : List Int) (s k : Nat) : List Int := (List.range k).map fun d => gR n r c m s d
def tabR (n : Nat) (r c m : List Int) (k : Nat) : List (List Int) := (List.range k).map fun s => rowR n r c m s n
theorem rowR_succ {n : Nat} {r c m : List Int} {s k : Nat} : rowR n r c m s (k + 1) = rowR n r c m s k ++ [gR n r c m s k] := by simp [rowR, List.range_succ]
theorem tabR_succ {n : Nat} {r c m : List Int} {k : Nat} : tabR n r c m (k + 1) = tabR n r c m k ++ [rowR n r c m k n] := by simp [tabR, List.range_succ]
theorem rowR_len {n : Nat} {r c m : List Int} {s k : Nat} : (rowR n r c m s k).length = k := by simp [rowR]
theorem tabR_len {n : Nat} {r c m : List Int} {k : Nat} : (tabR n r c m k).length = k := by simp [tabR]
theorem mid_get {A B : List (List Int)} {x : List Int} : ix (A ++ x :: B) (A.length : Int) = some x := by simp [ix_nat]
theorem mid_set {A B : List (List Int)} {x y : List Int} : setx (A ++ x :: B) (A.length : Int) y = some (A ++ y :: B) := by
  unfold setx
  rw [if_pos ⟨by omega, by simp; omega⟩]
  simp
structure Perms (n : Nat) (r c m : List Int) : Prop where
  hn : 2 ≤ n ∧ n ≤ 5
  r : r.Perm (rng n)
  c : c.Perm (rng n)
  m : m.Perm (rng n)
theorem perm_len {l : List Int} {n : Nat} (h : l.Perm (rng n)) : l.length = n := by rw [h.length_eq, rng_len]
theorem perm_at {l : List Int} {n i : Nat} (h : l.Perm (rng n)) (hi : i < n) : 0 ≤ l.getD i 0 ∧ l.getD i 0 < n := by
  have := perm_len h
  exact rng_mem (h.mem_iff.1 (mem_getD (by omega)))
theorem perm_inj {l : List Int} {n i j : Nat} (h : l.Perm (rng n)) (hi : i < n) (hj : j < n) (e : l.getD i 0 = l.getD j 0) : i = j := by
  have hl := perm_len h
  have hd : l.Nodup := h.nodup_iff.2 rng_nodup
  have hd := List.pairwise_iff_getElem.1 hd
  have e : l[i] = l[j] := by simpa [show i < l.length by omega, show j < l.length by omega] using e
  rcases Nat.lt_trichotomy i j with h1 | h1 | h1
  · exact absurd e (hd i j (by omega) (by omega) h1)
  · exact h1
  · exact absurd e.symm (hd j i (by omega) (by omega) h1)
theorem tab_row {n : Nat} {r c m : List Int} {i : Nat} (hi : i < n) : row (tabR n r c m n) i = rowR n r c m i n := by
  simp [row, tabR, hi]
theorem tab_en {n : Nat} {r c m : List Int} {i j : Nat} (hi : i < n) (hj : j < n) : en (tabR n r c m n) i j = gR n r c m i j := by
  unfold en; rw [tab_row hi]
  simp [rowR, hj]
theorem mod_inj {n a x y : Nat} (hn : 2 ≤ n ∧ n ≤ 5) (ha : a < n) (hx : x < n) (hy : y < n) (e : (a + x) % n = (a + y) % n) : x = y := by
  obtain ⟨h1, h2⟩ := hn
  rcases (show n = 2 ∨ n = 3 ∨ n = 4 ∨ n = 5 by omega) with rfl | rfl | rfl | rfl <;> omega
theorem gR_in {n : Nat} {r c m : List Int} (h : Perms n r c m) {i j : Nat} : 0 ≤ gR n r c m i j ∧ gR n r c m i j < n :=
  perm_at h.m (Nat.mod_lt _ (by have := h.hn; omega))
theorem gR_row {n : Nat} {r c m : List Int} (h : Perms n r c m) {i j k : Nat} (hi : i < n) (hj : j < n) (hk : k < n) (e : gR n r c m i j = gR n r c m i k) : j = k := by
  have h0 := h.hn
  have e1 := perm_inj h.m (Nat.mod_lt _ (by omega)) (Nat.mod_lt _ (by omega)) e
  have a1 := perm_at h.r hi
  have a2 := perm_at h.c hj
  have a3 := perm_at h.c hk
  obtain ⟨x, hx⟩ : ∃ x : Nat, r.getD i 0 = (x : Int) := ⟨(r.getD i 0).toNat, by omega⟩
  obtain ⟨y, hy⟩ : ∃ x : Nat, c.getD j 0 = (x : Int) := ⟨(c.getD j 0).toNat, by omega⟩
  obtain ⟨z, hz⟩ : ∃ x : Nat, c.getD k 0 = (x : Int) := ⟨(c.getD k 0).toNat, by omega⟩
  rw [hx, hy, hz, show ((x : Int) + (y : Int)).toNat = x + y by omega, show ((x : Int) + (z : Int)).toNat = x + z by omega] at e1
  have := mod_inj h0 (show x < n by omega) (show y < n by omega) (show z < n by omega) e1
  subst this
  exact perm_inj h.c hj hk (hy.trans hz.symm)
theorem gR_col {n : Nat} {r c m : List Int} (h : Perms n r c m) {i j k : Nat} (hi : i < n) (hj : j < n) (hk : k < n) (e : gR n r c m j i = gR n r c m k i) : j = k := by
  have h0 := h.hn
  have e1 := perm_inj h.m (Nat.mod_lt _ (by omega)) (Nat.mod_lt _ (by omega)) e
  have a1 := perm_at h.c hi
  have a2 := perm_at h.r hj
  have a3 := perm_at h.r hk
  obtain ⟨x, hx⟩ : ∃ x : Nat, c.getD i 0 = (x : Int) := ⟨(c.getD i 0).toNat, by omega⟩
  obtain ⟨y, hy⟩ : ∃ x : Nat, r.getD j 0 = (x : Int) := ⟨(r.getD j 0).toNat, by omega⟩
  obtain ⟨z, hz⟩ : ∃ x : Nat, r.getD k 0 = (x : Int) := ⟨(r.getD k 0).toNat, by omega⟩
  rw [hx, hy, hz, show ((y : Int) + (x : Int)).toNat = x + y by omega, show ((z : Int) + (x : Int)).toNat = x + z by omega] at e1
  have := mod_inj h0 (show x < n by omega) (show y < n by omega) (show z < n by omega) e1
  subst this
  exact perm_inj h.r hj hk (hy.trans hz.symm)
theorem tab_lat {n : Nat} {r c m : List Int} (h : Perms n r c m) : Lat (tabR n r c m n) := by
  have h0 := h.hn
  refine ⟨⟨by rw [tabR_len]; omega, fun i hi => ?_, fun i j hi hj => ?_⟩, by rw [tabR_len]; omega, ?_⟩
  · rw [tabR_len] at hi ⊢
    rw [tab_row hi, rowR_len]
  · rw [tabR_len] at hi hj ⊢
    rw [tab_en hi hj]; exact gR_in h
  · rintro ⟨i, hi, j, hj, k, hk, e⟩
    rw [tabR_len] at hi hj
    rw [tab_en hi hj, tab_en hi (by omega), tab_en hj hi, tab_en (by omega) hi] at e
    rcases e with e | e
    · have := gR_row h hi hj (by omega) e; omega
    · have := gR_col h hi hj (by omega) e; omega
theorem tab_small {n : Nat} {r c m : List Int} (h : Perms n r c m) : Small (tabR n r c m n) := by
  have h0 := h.hn
  refine ⟨by rw [tabR_len]; omega, fun x hx => ?_⟩
  simp only [tabR, List.mem_map] at hx
  obtain ⟨s, _, rfl⟩ := hx
  rw [rowR_len]; omega
/-- a plate's numbers are bytes -/
structure PlateB (p : Plate) : Prop where
  b : 0 ≤ p.Base ∧ p.Base ≤ 255
  r : B5 p.Rows
  c : B5 p.Columns
  m : B5 p.Numbers
theorem f39_in {N n : Nat} {p : Plate} {r c m : List Int} {x4 : List (List Int)} {k1 : List (List Int) → Option (List (List Int))} (h : Perms n r c m) (hb : W ((2 : Int) + Int.tmod p.Base 4) = (n : Int)) {s : Nat} (hs : s < n) {A B : List (List Int)} (hA : A.length = s) :
    ∀ fu d, d ≤ n → n - d < fu → f39_8 p r c m x4 (s : Int) k1 fu (d : Int) (A ++ rowR n r c m s d :: B) = k1 (A ++ rowR n r c m s n :: B) := by
  intro fu
  induction fu with
  | zero => intro d _ h; omega
  | succ fu ih =>
    intro d hd hf
    have h0 := h.hn
    conv => lhs; unfold f39_8 f39_8b
    rw [hb]
    by_cases e : d = n
    · subst e; simp
    · have hd : d < n := by omega
      have a1 := perm_at h.r hs
      have a2 := perm_at h.c hd
      have hw : W (r.getD s 0 + c.getD d 0) = (((r.getD s 0 + c.getD d 0).toNat : Nat) : Int) := by
        rw [show (((r.getD s 0 + c.getD d 0).toNat : Nat) : Int) = r.getD s 0 + c.getD d 0 by omega]
        exact W_of (by omega) (by omega)
      have hg : (A ++ rowR n r c m s d :: B) = A ++ rowR n r c m s d :: B := rfl
      have q1 : ix (A ++ rowR n r c m s d :: B) (s : Int) = some (rowR n r c m s d) := by rw [← hA]; exact mid_get
      have q2 : setx (A ++ rowR n r c m s d :: B) (s : Int) (rowR n r c m s (d + 1)) = some (A ++ rowR n r c m s (d + 1) :: B) := by rw [← hA]; exact mid_set
      rw [show decide ((d : Int) < (n : Int)) = true by simp; omega]
      simp only [cond_true, q1, ix_getD (show s < r.length by rw [perm_len h.r]; exact hs), ix_getD (show d < c.length by rw [perm_len h.c]; exact hd), Option.bind_some, chk_pos (show 0 < n by omega), hw, tmod_nat,
        ix_getD (show (r.getD s 0 + c.getD d 0).toNat % n < m.length by rw [perm_len h.m]; exact Nat.mod_lt _ (by omega))]
      rw [app_ok (by simp [rowR_len]; omega) (by simp [rowR_len]; omega)]
      simp only [Option.bind_some]
      rw [show rowR n r c m s d ++ [m.getD ((r.getD s 0 + c.getD d 0).toNat % n) 0] = rowR n r c m s (d + 1) from rowR_succ.symm, q2]
      simp only [Option.bind_some]
      rw [W_nat (by omega)]
      exact ih (d + 1) hd (by omega)
theorem f39_eq {N : Nat} {p : Plate} (hp : PlateB p) (hN : 30 ≤ N) : ∃ n r c m, Perms n r c m ∧ f39 N p = some (tabR n r c m n) := by
  obtain ⟨b, hb⟩ : ∃ b : Nat, p.Base = (b : Int) := ⟨p.Base.toNat, by have := hp.b; omega⟩
  have hlt := Nat.mod_lt b (show 0 < 4 by omega)
  have hw : W ((2 : Int) + Int.tmod p.Base 4) = ((2 + b % 4 : Nat) : Int) := by
    rw [hb, show (2 : Int) + Int.tmod (b : Int) 4 = ((2 + b % 4 : Nat) : Int) by
      have := tmod_nat b 4
      rw [show ((4 : Nat) : Int) = 4 from rfl] at this
      omega]
    exact W_of (by omega) (by omega)
  obtain ⟨r, hr1, hr2⟩ := f54_eq (N := N) hp.r (n := 2 + b % 4) (by omega) hN
  obtain ⟨c, hc1, hc2⟩ := f54_eq (N := N) hp.c (n := 2 + b % 4) (by omega) hN
  obtain ⟨m, hm1, hm2⟩ := f54_eq (N := N) hp.m (n := 2 + b % 4) (by omega) hN
  generalize hn : 2 + b % 4 = n at *
  have hP : Perms n r c m := ⟨by omega, hr1, hc1, hm1⟩
  refine ⟨n, r, c, m, hP, ?_⟩
  unfold f39
  rw [hw, hr2, hc2, hm2]
  have hmk : mkS 24 ([] : List Int) (n : Int) (n : Int) = some (List.replicate n []) := by
    unfold mkS
    rw [if_pos ⟨by omega, by omega, by omega⟩]; simp
  simp only [Option.bind_some, hmk, joinK]
  have key : ∀ fu s, s ≤ n → n - s < fu → f39_5 p N r c m (List.replicate n []) f39_c12 fu (s : Int) (tabR n r c m s ++ List.replicate (n - s) []) = some (tabR n r c m n) := by
    intro fu
    induction fu with
    | zero => intro s _ h; omega
    | succ fu ih =>
      intro s hs hf
      conv => lhs; unfold f39_5 f39_5b
      by_cases e : s = n
      · subst e; simp [f39_c12]
      · have hs : s < n := by omega
        rw [show decide ((s : Int) < ((List.replicate n ([] : List Int)).length : Int)) = true by simp; omega]
        simp only [cond_true, joinK]
        obtain ⟨a, ha⟩ : ∃ a, n - s = a + 1 := ⟨n - s - 1, by omega⟩
        rw [ha, List.replicate_succ]
        have := f39_in (N := N) (p := p) (x4 := List.replicate n []) (k1 := f39_c11 p r c m (List.replicate n []) (s : Int) (f39_5 p N r c m (List.replicate n []) f39_c12 fu)) hP hw hs (A := tabR n r c m s) (B := List.replicate a []) tabR_len N 0 (by omega) (by omega)
        rw [show ((0 : Nat) : Int) = 0 from rfl, show rowR n r c m s 0 = [] from rfl] at this
        rw [this]
        unfold f39_c11
        rw [W_nat (by omega)]
        have := ih (s + 1) hs (by omega)
        rw [tabR_succ, List.append_assoc, show n - (s + 1) = a by omega] at this
        exact this
  have := key N 0 (by omega) (by omega)
  simpa [tabR] using this
theorem f40_loop {t : List (List Int)} (h : Sq t) {l : List Int} {k0 : Int → Option Int} (hl : l.length ≤ 1000000) (hd : Dig t l) : ∀ n (i s : Nat), i ≤ l.length → l.length - i < n → s < t.length → f40_3 t l k0 n (s : Int) (i : Int) = k0 ((dl t s (l.drop i) : Nat) : Int) := by
  intro n
  induction n with
  | zero => intro i s _ h; omega
  | succ n ih =>
    intro i s hi hn hs
    conv => lhs; unfold f40_3 f40_3b
    by_cases e : i = l.length
    · subst e; simp [dl_nil]
    · have hi : i < l.length := by omega
      have hx : 0 ≤ l[i] ∧ l[i] < t.length := hd _ (List.getElem_mem hi)
      obtain ⟨h1, h2⟩ := h.step hs hx
      simp only [show (i : Int) < (l.length : Int) by omega, decide_true, cond_true, ix_get hi, Option.bind_some, ix_row hs, h2]
      rw [W_nat (by omega), ih (i + 1) _ hi (by omega) h1, List.drop_eq_getElem_cons hi, dl_cons]
theorem f40_eq {N : Nat} {t : List (List Int)} (h : Lat t) {l : List Int} (hd : Dig t l) (hl : l.length ≤ 50) (hN : 100 ≤ N) : f40 N t l = some ((dl t 0 l : Nat) : Int) := by
  unfold f40
  simp only [joinK]
  have := f40_loop h.toSq (k0 := f40_c7) (by omega) hd N 0 0 (by omega) (by omega) (by have := h.two; omega)
  rw [show ((0 : Nat) : Int) = 0 from rfl] at this
  rw [this]; rfl
end Go.Vc
/-
  PLAIN LAWS OF SERIAL, 10: the codes of an edition.
-/
namespace Go.Vc
set_option linter.unusedVariables false
set_option linter.unnecessarySimpa false
set_option linter.unusedSimpArgs false
set_option linter.unusedSimpArgs false
theorem lw_get {n : Nat} : ∀ {k v i : Nat}, i < k → (lw n k v).getD i 0 = ((v / n ^ (k - 1 - i) % n : Nat) : Int)
  | k + 1, v, 0, _ => by simp [lw]
  | k + 1, v, i + 1, h => by
    have := lw_get (n := n) (k := k) (v := v) (i := i) (by omega)
    rw [show lw n (k + 1) v = ((v / n ^ k % n : Nat) : Int) :: lw n k v from rfl, List.getD_cons_succ, this, show k + 1 - 1 - (i + 1) = k - 1 - i by omega]
theorem lw_mod {n : Nat} {k v : Nat} : ∀ {j : Nat}, j ≤ k → lw n j (v % n ^ k) = lw n j v
  | 0, _ => rfl
  | j + 1, h => by
    rw [show lw n (j + 1) (v % n ^ k) = ((v % n ^ k / n ^ j % n : Nat) : Int) :: lw n j (v % n ^ k) from rfl, lw_mod (by omega)]
    have e : v % n ^ k / n ^ j % n = v / n ^ j % n := by
      rw [show n ^ k = n ^ j * n ^ (k - j) by rw [← Nat.pow_add]; congr 1; omega, Nat.mod_mul_right_div_self]
      exact Nat.mod_mod_of_dvd _ (Nat.dvd_of_pow_dvd (k := k - j) (by omega) (Nat.dvd_refl _))
    rw [e]; rfl
/-- the first digit that differs is less -/
theorem lw_lex {n : Nat} (hn : 0 < n) : ∀ {k v : Nat}, v + 1 < n ^ k → ∃ i, i < k ∧ (∀ j, j < i → (lw n k v).getD j 0 = (lw n k (v + 1)).getD j 0) ∧ (lw n k v).getD i 0 < (lw n k (v + 1)).getD i 0
  | 0, v, h => by simp at h
  | k + 1, v, h => by
    have hP : 0 < n ^ k := Nat.pow_pos hn
    have hdm := Nat.div_add_mod v (n ^ k)
    have hr := Nat.mod_lt v hP
    have hq1 : (v + 1) / n ^ k < n := by
      rw [Nat.div_lt_iff_lt_mul hP, Nat.mul_comm]; rw [Nat.pow_succ] at h; exact h
    by_cases e : v % n ^ k + 1 < n ^ k
    · have hv : v + 1 = v % n ^ k + 1 + n ^ k * (v / n ^ k) := by omega
      have hd : (v + 1) / n ^ k = v / n ^ k := by
        rw [hv, Nat.add_mul_div_left _ _ hP, Nat.div_eq_of_lt e, Nat.zero_add]
      have hm : (v + 1) % n ^ k = v % n ^ k + 1 := by
        rw [hv, Nat.add_mul_mod_self_left, Nat.mod_eq_of_lt e]
      obtain ⟨i, h1, h2, h3⟩ := lw_lex hn (k := k) (v := v % n ^ k) e
      rw [lw_mod (Nat.le_refl _), ← hm, lw_mod (Nat.le_refl _)] at h2 h3
      refine ⟨i + 1, by omega, fun j hj => ?_, ?_⟩
      · cases j with
        | zero => simp [lw, hd]
        | succ j =>
          rw [show lw n (k + 1) v = ((v / n ^ k % n : Nat) : Int) :: lw n k v from rfl, show lw n (k + 1) (v + 1) = (((v + 1) / n ^ k % n : Nat) : Int) :: lw n k (v + 1) from rfl, List.getD_cons_succ, List.getD_cons_succ]
          exact h2 j (by omega)
      · rw [show lw n (k + 1) v = ((v / n ^ k % n : Nat) : Int) :: lw n k v from rfl, show lw n (k + 1) (v + 1) = (((v + 1) / n ^ k % n : Nat) : Int) :: lw n k (v + 1) from rfl, List.getD_cons_succ, List.getD_cons_succ]
        exact h3
    · have hv : v + 1 = n ^ k * (v / n ^ k + 1) := by rw [Nat.mul_add]; omega
      have hd : (v + 1) / n ^ k = v / n ^ k + 1 := by rw [hv, Nat.mul_div_cancel_left _ hP]
      refine ⟨0, by omega, fun j hj => by omega, ?_⟩
      rw [lw_get (by omega), lw_get (by omega)]
      simp only [Nat.add_sub_cancel, Nat.sub_zero]
      rw [Nat.mod_eq_of_lt hq1, Nat.mod_eq_of_lt (by omega), hd]
      omega
theorem lw_val {n : Nat} : ∀ {k v s : Nat}, (lw n k v).foldl (fun (s : Int) x => s * (n : Int) + x) (s : Int) = ((s * n ^ k + v % n ^ k : Nat) : Int)
  | 0, v, s => by simp [lw, Nat.mod_one]
  | k + 1, v, s => by
    rw [show lw n (k + 1) v = ((v / n ^ k % n : Nat) : Int) :: lw n k v from rfl, List.foldl_cons, show (s : Int) * (n : Int) + ((v / n ^ k % n : Nat) : Int) = ((s * n + v / n ^ k % n : Nat) : Int) by simp, lw_val, Nat.mod_pow_succ, Nat.pow_succ]
    congr 1
    rw [Nat.add_mul, Nat.mul_assoc, Nat.mul_comm n, Nat.mul_comm (v / n ^ k % n)]
    omega
/-- numbers that stay small are not wrapped -/
theorem nm_fold {n : Nat} (hn : n ≤ 10) : ∀ {l : List Int} {s : Int} {m : Nat}, (∀ x, x ∈ l → 0 ≤ x ∧ x < 10) → 0 ≤ s → s < 10 ^ m → m + l.length ≤ 15 → l.foldl (fun s x => W (W (s * (n : Int)) + x)) s = l.foldl (fun (s : Int) x => s * (n : Int) + x) s
  | [], s, m, _, _, _, _ => rfl
  | x :: l, s, m, hx, h0, h1, hl => by
    have hx1 := hx x (by simp)
    have hp : (10 : Int) ^ m ≤ 10 ^ 15 := by
      have := Nat.pow_le_pow_right (show 0 < 10 by omega) (show m ≤ 15 by omega)
      exact_mod_cast this
    have hn' : (n : Int) ≤ 10 := by omega
    have h2 : s * (n : Int) ≤ s * 10 := Int.mul_le_mul_of_nonneg_left hn' h0
    have h3 : 0 ≤ s * (n : Int) := Int.mul_nonneg h0 (by omega)
    have hw : W (W (s * (n : Int)) + x) = s * (n : Int) + x := by
      rw [W_of (show -9223372036854775808 ≤ s * (n : Int) by omega) (by omega)]
      exact W_of (by omega) (by omega)
    rw [List.foldl_cons, List.foldl_cons, hw]
    refine nm_fold hn (m := m + 1) (fun y hy => hx y (by simp [hy])) (by omega) ?_ (by simp only [List.length_cons] at hl; omega)
    rw [Int.pow_succ]; omega
theorem nm_lw {t : List (List Int)} (h1 : Lat t) {k v : Nat} (hk : k ≤ 11) (hv : v < t.length ^ k) : nm t (lw t.length k v) = (v : Int) := by
  have h0 := h1.two
  have hn := h1.hi
  unfold nm
  rw [nm_fold hn (m := 1) (fun x hx => by have := lw_dig (t := t) (by omega) x hx; omega) (by omega) (by decide) (by rw [lw_len]; omega)]
  have := lw_val (n := t.length) (k := k) (v := v) (s := 0)
  rw [show ((0 : Nat) : Int) = 0 from rfl] at this
  rw [this, Nat.zero_mul, Nat.zero_add, Nat.mod_eq_of_lt hv]
theorem cdL_len {t : List (List Int)} {k v : Nat} : (cdL t k v).length = k + 1 := by simp [cdL, lw_len]
theorem cdL_dig {t : List (List Int)} (h1 : Lat t) {k v : Nat} : Dig t (cdL t k v) := by
  have h0 := h1.two
  have hd : Dig t (lw t.length k v) := lw_dig (by omega)
  refine Dig.append.2 ⟨hd, fun x hx => ?_⟩
  have := (cd_of h1 hd).1
  have := List.mem_singleton.1 hx
  omega
theorem cdL_dl {t : List (List Int)} (h1 : Lat t) {k v : Nat} : dl t 0 (cdL t k v) = 0 := by
  have h0 := h1.two
  have hd : Dig t (lw t.length k v) := lw_dig (by omega)
  unfold cdL
  rw [dl_append, dl_cons, dl_nil, Int.toNat_natCast, (cd_of h1 hd).2]; rfl
theorem cdL_take {t : List (List Int)} {k v : Nat} : (cdL t k v).take k = lw t.length k v := by
  unfold cdL
  rw [List.take_append_of_le_length (by rw [lw_len]; omega), List.take_of_length_le (by rw [lw_len]; omega)]
theorem cdL_get {t : List (List Int)} {k v i : Nat} (h : i < k) : (cdL t k v).getD i 0 = (lw t.length k v).getD i 0 := by
  unfold cdL
  simp [List.getD_eq_getElem?_getD, List.getElem?_append, lw_len, h]
theorem cdL_last {t : List (List Int)} {k v : Nat} : ix (cdL t k v) (k : Int) = some ((cd t (lw t.length k v) : Nat) : Int) := by
  unfold cdL
  have := lw_len (n := t.length) (j := k) (v := v)
  rw [ix_nat, List.getElem?_append_right (by omega), this]; simp
theorem f8_true {N : Nat} {p : Plate} {a1 a2 : Int} (hp : PlateB p) (h1' : 0 ≤ a1 ∧ a1 ≤ 255) (h2' : 0 ≤ a2 ∧ a2 ≤ 65535) : f8 (N + 2000) p a1 a2 = some true := by
  obtain ⟨n, r, c, m, hP, ht⟩ := f39_eq (N := N + 2000) hp (by omega)
  have h1 := tab_lat hP
  have hs := tab_small hP
  have hw : f15 (N + 2000) = some true := f15_any (N + 1940)
  unfold f8
  rw [ht]
  generalize tabR n r c m n = t at *
  have h0 := h1.two
  have hn10 := h1.hi
  obtain ⟨b, rfl⟩ : ∃ b : Nat, a1 = (b : Int) := ⟨a1.toNat, by omega⟩
  obtain ⟨u, rfl⟩ : ∃ u : Nat, a2 = (u : Int) := ⟨a2.toNat, by omega⟩
  obtain ⟨k, hk⟩ : ∃ k, k = 1 + b % 5 := ⟨_, rfl⟩
  have hb5 := Nat.mod_lt b (show 0 < 5 by omega)
  have hkw : W ((2 : Int) + Int.tmod (b : Int) 5) = ((k + 1 : Nat) : Int) := by
    rw [show (2 : Int) + Int.tmod (b : Int) 5 = ((k + 1 : Nat) : Int) by
      have := tmod_nat b 5
      rw [show ((5 : Nat) : Int) = 5 from rfl] at this
      omega]
    exact W_of (by omega) (by omega)
  have hkw1 : W (((k + 1 : Nat) : Int) - 1) = (k : Int) := by rw [show ((k + 1 : Nat) : Int) - 1 = (k : Int) by omega]; exact W_of (by omega) (by omega)
  have hpl := pow_le hn10 (show k ≤ 11 by omega)
  have hpp : 0 < t.length ^ k := Nat.pow_pos (by omega)
  simp only [Option.bind_some, joinK]
  have hprod : ∀ fu j, j ≤ k → k - j < fu → f8_5 (b : Int) (u : Int) t (f8_c8 (b : Int) (u : Int) (N + 2000) t) fu ((t.length ^ j : Nat) : Int) ((j + 1 : Nat) : Int) = f8_c8 (b : Int) (u : Int) (N + 2000) t ((t.length ^ k : Nat) : Int) := by
    intro fu
    induction fu with
    | zero => intro j _ h; omega
    | succ fu ih =>
      intro j hj hf
      conv => lhs; unfold f8_5 f8_5b
      rw [hkw]
      by_cases e : j = k
      · subst e; simp
      · rw [show decide (((j + 1 : Nat) : Int) < ((k + 1 : Nat) : Int)) = true by simp; omega]
        simp only [cond_true]
        have h2 := pow_le hn10 (show j + 1 ≤ 11 by omega)
        have hw : W (((t.length ^ j : Nat) : Int) * (t.length : Int)) = ((t.length ^ (j + 1) : Nat) : Int) := by
          rw [show ((t.length ^ j : Nat) : Int) * (t.length : Int) = ((t.length ^ (j + 1) : Nat) : Int) by rw [Nat.pow_succ]; simp]
          exact W_of (by omega) (by omega)
        rw [hw, W_nat (by omega)]
        exact ih (j + 1) (by omega) (by omega)
  have := hprod (N + 2000) 0 (by omega) (by omega)
  rw [Nat.pow_zero, show ((1 : Nat) : Int) = 1 from rfl] at this
  rw [this]
  clear this hprod
  -- the code
  generalize hv : u % t.length ^ k = v
  have hvlt : v < t.length ^ k := hv ▸ Nat.mod_lt _ hpp
  have hvu : v ≤ 65535 := by have := Nat.mod_le u (t.length ^ k); omega
  have hchk : chkT t = 0 := chkT_good.2 h1
  have hcd : ∀ w : Nat, cdT t ((k + 1 : Nat) : Int) (w : Int) = if w < t.length ^ k then 0 else 4 := by
    intro w
    unfold cdT
    rw [if_neg (by simp [hchk]), if_neg (by omega), show ((k + 1 : Nat) : Int).toNat - 1 = k by omega]
    by_cases e : w < t.length ^ k
    · rw [if_pos e, if_pos ⟨by omega, by omega⟩]
    · rw [if_neg e, if_neg (by omega)]
  have hcode : ∀ w : Nat, w ≤ 1000000 → f35 (N + 2000) t ((k + 1 : Nat) : Int) (w : Int) = some (if w < t.length ^ k then (cdL t k w, (0 : Int)) else ([], 4)) := by
    intro w hw
    rw [(code_eq (N := N + 2000) hs (by omega) (by omega)).1, hcd]
    by_cases e : w < t.length ^ k
    · simp [e]
    · simp [e]
  unfold f8_c8
  rw [chk_pos hpp, hkw, tmod_nat, hv, hcode v (by have := Nat.mod_le u (t.length ^ k); omega), if_pos hvlt]
  simp only [Option.bind_some, not_true_eq_false, decide_false, cond_false, cdL_len, joinK]
  have hdig := cdL_dig h1 (k := k) (v := v)
  rw [loop_ex0 (F := f8_14 (b : Int) (u : Int) t ((t.length ^ k : Nat) : Int) (cdL t k v, 0) (f8_c19 (b : Int) (u : Int) (N + 2000) t ((t.length ^ k : Nat) : Int) (cdL t k v, 0))) (e := some false)
    (k0 := f8_c19 (b : Int) (u : Int) (N + 2000) t ((t.length ^ k : Nat) : Int) (cdL t k v, 0)) (p := fun _ => False) (cdL t k v).length]
  · rw [if_neg (by rintro ⟨_, _, h⟩; exact h)]
    unfold f8_c19
    have hsub : sub (cdL t k v) 0 (k : Int) = some (lw t.length k v) := by rw [sub_pre (by rw [cdL_len]; omega), cdL_take]
    simp only [joinK, hkw, hkw1, hsub, Option.bind_some]
    have hloop : ∀ fu i (s : Int), i ≤ k → k - i < fu → f8_20 (b : Int) (u : Int) t ((t.length ^ k : Nat) : Int) (cdL t k v, 0) (f8_c24 (b : Int) (u : Int) (N + 2000) t ((t.length ^ k : Nat) : Int) (cdL t k v, 0)) (lw t.length k v) fu s (i : Int) =
        f8_c24 (b : Int) (u : Int) (N + 2000) t ((t.length ^ k : Nat) : Int) (cdL t k v, 0) (((lw t.length k v).drop i).foldl (fun s x => W (W (s * (t.length : Int)) + x)) s) := by
      intro fu
      induction fu with
      | zero => intro i s _ h; omega
      | succ fu ih =>
        intro i s hi hf
        have hll := lw_len (n := t.length) (j := k) (v := v)
        conv => lhs; unfold f8_20 f8_20b
        rw [hll]
        by_cases e : i = k
        · subst e
          rw [List.drop_of_length_le (by omega)]; simp
        · have hi' : i < (lw t.length k v).length := by omega
          simp only [show (i : Int) < (k : Int) by omega, decide_true, cond_true, ix_get hi', Option.bind_some]
          rw [W_nat (by omega), ih (i + 1) _ (by omega) (by omega), List.drop_eq_getElem_cons hi']; rfl
    have := hloop (N + 2000) 0 0 (by omega) (by omega)
    rw [show ((0 : Nat) : Int) = 0 from rfl, List.drop_zero, show (lw t.length k v).foldl (fun s x => W (W (s * (t.length : Int)) + x)) 0 = nm t (lw t.length k v) from rfl, nm_lw h1 (by omega) hvlt] at this
    rw [this]
    clear this hloop
    unfold f8_c24
    have hld : Dig t (lw t.length k v) := lw_dig (by omega)
    have hll := lw_len (n := t.length) (j := k) (v := v)
    have hright : rightT t (cdL t k v) = 0 := by
      unfold rightT
      rw [if_pos (codT_ok.2 ⟨h1, by rw [cdL_len]; omega, by rw [cdL_len]; omega, hdig⟩), if_pos (cdL_dl h1)]
    obtain ⟨rn, e1, _, e2⟩ := number_eq (N := N + 2000) (t := t) (l := cdL t k v) hs (by rw [cdL_len]; omega) (by omega)
    have e2 := e2 hright
    rw [cdL_len, Nat.add_sub_cancel, cdL_take, nm_lw h1 (by omega) hvlt] at e2
    subst e2
    rw [e1]
    simp only [Option.bind_some, hkw, hkw1, hsub, tmod_nat, hv]
    rw [(digit_cd (N := N + 2000) hs h1 hld (by omega) (by omega)).1, f21_eq hs (by omega) (by omega), if_pos (digT_ok.2 ⟨h1, by omega, hld⟩)]
    simp only [Option.bind_some, not_true_eq_false, decide_false, cond_false, hkw, hkw1, hsub, tmod_nat, hv]
    rw [f40_eq h1 hdig (by rw [cdL_len]; omega) (by omega), f40_eq h1 hld (by omega) (by omega), cdL_dl h1, cdL_last]
    have hvw : W ((v : Int) + 1) = ((v + 1 : Nat) : Int) := W_nat (by omega)
    simp only [Option.bind_some, show ((0 : Nat) : Int) = 0 from rfl, not_true_eq_false, decide_false, cond_false, hvw, hkw, hcode (v + 1) (by omega)]
    by_cases e : v + 1 < t.length ^ k
    · rw [if_pos e]
      simp only [show ¬ ((v + 1 : Nat) : Int) = ((t.length ^ k : Nat) : Int) by omega, not_true_eq_false, decide_false, cond_false, cdL_len, joinK]
      obtain ⟨i, hi, he, hlt⟩ := lw_lex (n := t.length) (by omega) e
      have a1 := loop_find (F := f8_35 (N + 2000) (cdL t k v, 0) (cdL t k (v + 1), 0) f8_c40) (k := fun j => if (cdL t k v).getD j 0 < (cdL t k (v + 1)).getD j 0 then some true else some false) (p := fun j => (cdL t k v).getD j 0 ≠ (cdL t k (v + 1)).getD j 0) i (by
        rw [cdL_get hi, cdL_get hi]; omega) (by
        intro fu j hj hpj
        conv => lhs; unfold f8_35 f8_35b
        have hpj : (cdL t k v).getD j 0 = (cdL t k (v + 1)).getD j 0 := Classical.not_not.1 hpj
        simp only [cdL_len, show (j : Int) < ((k + 1 : Nat) : Int) by omega, decide_true, cond_true]
        rw [ix_getD (by rw [cdL_len]; omega), ix_getD (by rw [cdL_len]; omega)]
        simp only [Option.bind_some, hpj, not_true_eq_false, decide_false, cond_false]
        rw [W_nat (by omega)]) (by
        intro fu j hj hpj
        conv => lhs; unfold f8_35 f8_35b
        simp only [cdL_len, show (j : Int) < ((k + 1 : Nat) : Int) by omega, decide_true, cond_true]
        rw [ix_getD (by rw [cdL_len]; omega), ix_getD (by rw [cdL_len]; omega)]
        simp only [Option.bind_some, hpj, not_false_eq_true, decide_true, cond_true, hw]
        by_cases hh : (cdL t k v).getD j 0 < (cdL t k (v + 1)).getD j 0 <;> simp [hh]) (N + 2000) 0 (by omega) (by omega)
      obtain ⟨j, _, hj, pj, hall, ej⟩ := a1
      have hji : j = i := by
        by_cases hh : j < i
        · have := he j hh
          rw [← cdL_get (by omega), ← cdL_get (by omega)] at this
          exact absurd this pj
        · omega
      subst hji
      rw [show ((0 : Nat) : Int) = 0 from rfl] at ej
      rw [ej, if_pos (by rw [cdL_get hi, cdL_get hi]; exact hlt)]
    · rw [if_neg e]
      simp only [show ((v + 1 : Nat) : Int) = ((t.length ^ k : Nat) : Int) by omega, decide_true, cond_true]
      simp [hw]
  · intro fu i hi
    conv => lhs; unfold f8_14 f8_14b
    have := hdig _ (mem_getD hi)
    rw [cdL_len] at hi ⊢
    simp only [show (i : Int) < ((k + 1 : Nat) : Int) by omega, decide_true, cond_true]
    rw [ix_getD (by rw [cdL_len]; omega)]
    simp only [Option.bind_some, show ¬ (cdL t k v).getD i 0 < 0 by omega, show ¬ (t.length : Int) ≤ (cdL t k v).getD i 0 by omega, decide_false, cond_false]
    rw [W_nat (by omega)]; simp
  · intro fu; (conv => lhs; unfold f8_14 f8_14b); simp
  · rw [cdL_len]; omega
end Go.Vc
/-
  The arguments of the laws of Serial, as data.
-/
namespace Go.Vc
set_option linter.unusedVariables false
set_option linter.unnecessarySimpa false
set_option linter.unusedSimpArgs false
abbrev tI : Ty := .int .i64
abbrev tB : Ty := .int .u8
abbrev tInts : Ty := .slice tI false 1
abbrev tTable : Ty := .slice tInts false 1
abbrev tBytes : Ty := .slice tB false 1
def i64In (n : Int) : Prop := -9223372036854775808 ≤ n ∧ n ≤ 9223372036854775807
def u8In (n : Int) : Prop := 0 ≤ n ∧ n ≤ 255
theorem tI_of {ds : List D} (h : tI.has ds) : ∃ n, ds = [iN n] ∧ i64In n := by
  simp only [tI, Ty.has] at h
  obtain ⟨n, rfl, h⟩ := h
  exact ⟨n, rfl, by simpa [IntKind.min, IntKind.max, IntKind.signed, IntKind.bits, i64In] using h⟩
theorem tB_of {ds : List D} (h : tB.has ds) : ∃ n, ds = [u8N n] ∧ u8In n := by
  simp only [tB, Ty.has] at h
  obtain ⟨n, rfl, h⟩ := h
  exact ⟨n, rfl, by simpa [IntKind.min, IntKind.max, IntKind.signed, IntKind.bits, u8In] using h⟩
theorem ints_of {ds : List D} (h : tInts.has ds) : ∃ l : List Int, ds = [sl_iN l] ∧ ∀ x, x ∈ l → i64In x := by
  obtain ⟨l, h1, _, h3⟩ := slice_of (d := iN) (p := i64In) (fun cs hc => by
    obtain ⟨n, rfl, h⟩ := tI_of hc
    exact ⟨n, rfl, h⟩) h
  exact ⟨l, h1, h3⟩
theorem bytes_of {ds : List D} (h : tBytes.has ds) : ∃ l : List Int, ds = [sl_u8N l] ∧ ∀ x, x ∈ l → u8In x := by
  obtain ⟨l, h1, _, h3⟩ := slice_of (d := u8N) (p := u8In) (fun cs hc => by
    obtain ⟨n, rfl, h⟩ := tB_of hc
    exact ⟨n, rfl, h⟩) h
  exact ⟨l, h1, h3⟩
theorem table_of {ds : List D} (h : tTable.has ds) : ∃ l : List (List Int), ds = [sl_sl_iN l] := by
  obtain ⟨l, h1, _, _⟩ := slice_of (d := sl_iN) (p := fun _ => True) (fun cs hc => by
    obtain ⟨n, rfl, h⟩ := ints_of hc
    exact ⟨n, rfl, trivial⟩) h
  exact ⟨l, h1⟩
theorem tI_ofD {x : D} (h : tI.hasD x) : ∃ n, x = iN n ∧ i64In n := by
  obtain ⟨n, h1, h2⟩ := tI_of (ds := [x]) h
  exact ⟨n, List.singleton_inj.1 h1, h2⟩
theorem tB_ofD {x : D} (h : tB.hasD x) : ∃ n, x = u8N n ∧ u8In n := by
  obtain ⟨n, h1, h2⟩ := tB_of (ds := [x]) h
  exact ⟨n, List.singleton_inj.1 h1, h2⟩
theorem ints_ofD {x : D} (h : tInts.hasD x) : ∃ l : List Int, x = sl_iN l ∧ ∀ x, x ∈ l → i64In x := by
  obtain ⟨n, h1, h2⟩ := ints_of (ds := [x]) h
  exact ⟨n, List.singleton_inj.1 h1, h2⟩
theorem bytes_ofD {x : D} (h : tBytes.hasD x) : ∃ l : List Int, x = sl_u8N l ∧ ∀ x, x ∈ l → u8In x := by
  obtain ⟨n, h1, h2⟩ := bytes_of (ds := [x]) h
  exact ⟨n, List.singleton_inj.1 h1, h2⟩
theorem table_ofD {x : D} (h : tTable.hasD x) : ∃ l : List (List Int), x = sl_sl_iN l := by
  obtain ⟨n, h1⟩ := table_of (ds := [x]) h
  exact ⟨n, List.singleton_inj.1 h1⟩
end Go.Vc
/-
  Plates, as data.
-/
namespace Go.Vc
set_option linter.unusedVariables false
set_option linter.unnecessarySimpa false
set_option linter.unusedSimpArgs false
set_option linter.unusedSimpArgs false
abbrev tB5 : Ty := .comp [tB, tB, tB, tB, tB]
abbrev tPlate : Ty := .comp [tB, tB, tB5, tB5, tB5]
abbrev tU16 : Ty := .int .u16
theorem tB_of' {ds : List D} (h : (Ty.int .u8).has ds) : ∃ n, ds = [u8N n] ∧ u8In n := tB_of h
theorem B5.of {ds : List D} (h : Ty.hasL [tB, tB, tB, tB, tB] ds) : ∃ x : A5u8N, ds = [u8N x.e0, u8N x.e1, u8N x.e2, u8N x.e3, u8N x.e4] ∧ B5 x := by
  simp only [Ty.hasL] at h
  obtain ⟨a, b, rfl, h1, c, d, rfl, h2, e, f, rfl, h3, g, k, rfl, h4, l, m, rfl, h5, rfl⟩ := h
  obtain ⟨x0, rfl, p0⟩ := tB_of' h1
  obtain ⟨x1, rfl, p1⟩ := tB_of' h2
  obtain ⟨x2, rfl, p2⟩ := tB_of' h3
  obtain ⟨x3, rfl, p3⟩ := tB_of' h4
  obtain ⟨x4, rfl, p4⟩ := tB_of' h5
  exact ⟨⟨x0, x1, x2, x3, x4⟩, rfl, p0, p1, p2, p3, p4⟩
theorem B5.of' {ds : List D} (h : tB5.has ds) : ∃ x : A5u8N, ds = [u8N x.e0, u8N x.e1, u8N x.e2, u8N x.e3, u8N x.e4] ∧ B5 x := by
  simp only [tB5, Ty.has] at h
  exact B5.of h
theorem B5.ofD {x : D} (h : tB5.hasD x) : ∃ a : A5u8N, x = A5u8N.d a ∧ B5 a := by
  obtain ⟨cs, rfl, h⟩ := h
  obtain ⟨a, e, h2⟩ := B5.of h
  subst e
  exact ⟨a, rfl, h2⟩
theorem Plate.ofD {x : D} (h : tPlate.hasD x) : ∃ a : Plate, x = Plate.d a ∧ PlateB a := by
  obtain ⟨cs, rfl, h⟩ := h
  rw [Ty.hasL] at h
  obtain ⟨a, b, rfl, h1, h⟩ := h
  rw [Ty.hasL] at h
  obtain ⟨c, d, rfl, h2, h⟩ := h
  rw [Ty.hasL] at h
  obtain ⟨e, f, rfl, h3, h⟩ := h
  rw [Ty.hasL] at h
  obtain ⟨g, k, rfl, h4, h⟩ := h
  rw [Ty.hasL] at h
  obtain ⟨l, m, rfl, h5, h⟩ := h
  simp only [Ty.hasL] at h
  subst h
  obtain ⟨x0, rfl, p0⟩ := tB_of' h1
  obtain ⟨x1, rfl, p1⟩ := tB_of' h2
  obtain ⟨x2, rfl, p2⟩ := B5.of' h3
  obtain ⟨x3, rfl, p3⟩ := B5.of' h4
  obtain ⟨x4, rfl, p4⟩ := B5.of' h5
  exact ⟨⟨x0, x1, x2, x3, x4⟩, rfl, p0, p2, p3, p4⟩
theorem u16_ofD {x : D} (h : tU16.hasD x) : ∃ n, x = .v (.int .u16 n) ∧ 0 ≤ n ∧ n ≤ 65535 := by
  have h : tU16.has [x] := h
  simp only [tU16, Ty.has] at h
  obtain ⟨n, h1, h⟩ := h
  exact ⟨n, List.singleton_inj.1 h1, by simpa [IntKind.min, IntKind.max, IntKind.signed, IntKind.bits] using h⟩
end Go.Vc

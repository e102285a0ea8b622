/-
  A library for proofs about Go functions by symbolic evaluation, and plain Lean functions that the walked Go functions compute (written by a program of this claim).
-/
import Derived.Test.YtikifojhjbcfhaaW1
import Derived.Test.YtikifojhjbcfhaaW4
import Derived.Test.YtikifojhjbcfhaaW3
import Derived.Test.YtikifojhjbcfhaaVc3
import Derived.Test.YtikifojhjbcfhaaW2
namespace Go.Vc
open Go.Proofs
set_option linter.unusedVariables false
set_option linter.unnecessarySimpa false
set_option linter.unusedSimpArgs false
section
variable {c : Ctx} {p nid : Nat} {a b : Code} {st : St} {K : Ex → St → Prop}
def f54_c12 (out6 : List Int) : Option ((List Int)) :=
 some (out6)
def Lf54_c12 : Lp ((List Int)) (Nat) ((List Int)) := ⟨⟨[6], [90006], [(.slot 6, 90006, 3, 1)], []⟩, fun out6 => [.rs 90006 (List.length out6)], fun out6 => [.row 3 1 (List.map iN out6)], fun out6 => f54_c12 out6, fun _ m0 => [.rs 90006 m0], fun out6 _ => [.row 3 1 (List.map iN out6)], fun out6 => List.length out6, fun _ => rfl, fun _ => rfl⟩
theorem Ef54_c12 {out6} : (Lf54_c12).E out6 = f54_c12 out6 := rfl
def f54_c11 (a1 : A5u8N) (left5' : List Int) (k8 : Int) (r7 : (List Int) → (List Int) → Int → Option ((List Int))) (x1 : Int) (out6' : List Int) : Option ((List Int)) :=
 (sub (left5') 0 (Int.tmod x1 (List.length (left5') : Int))).bind fun x2 =>
 (app 8 [] x2).bind fun x3 =>
 (sub (left5') (W ((Int.tmod x1 (List.length (left5') : Int)) + (1 : Int))) (List.length (left5') : Int)).bind fun x4 =>
 (app 8 x3 x4).bind fun x5 =>
 r7 x5 (out6') (W (k8 + (1 : Int)))
def Lf54_c11 (a1 : A5u8N) (left5' : List Int) (k8 : Int) (r7 : (List Int) → (List Int) → Int → Option ((List Int))) (x1 : Int) : Lp ((List Int)) (Nat × Nat) ((List Int)) := ⟨⟨[3, 5, 6, 8, 9], [0, 90005, 90006], [(.slot 6, 90006, 3, 1)], [90005]⟩, fun out6' => [.ptr 0 0, .rs 90005 (List.length (left5')), .rs 90006 (List.length (out6')), .dat (iN k8), .dat (iN (Int.tmod x1 (List.length (left5') : Int)))], fun out6' => [.box [.dat (u8N a1.e0), .dat (u8N a1.e1), .dat (u8N a1.e2), .dat (u8N a1.e3), .dat (u8N a1.e4)], .fz 3 1 (List.map iN (left5')), .row 3 1 (List.map iN (out6'))], fun out6' => f54_c11 a1 left5' k8 r7 x1 out6', fun _ (m0, m1) => [.ptr 0 0, .rs 90005 m0, .rs 90006 m1, .dat (iN k8), .dat (iN (Int.tmod x1 (List.length (left5') : Int)))], fun out6' (_, _) => [.box [.dat (u8N a1.e0), .dat (u8N a1.e1), .dat (u8N a1.e2), .dat (u8N a1.e3), .dat (u8N a1.e4)], .fz 3 1 (List.map iN (left5')), .row 3 1 (List.map iN (out6'))], fun out6' => (List.length (left5'), List.length (out6')), fun _ => rfl, fun _ => rfl⟩
theorem Ef54_c11 {a1 left5' k8 r7 x1 out6'} : (Lf54_c11 a1 left5' k8 r7 x1).E out6' = f54_c11 a1 left5' k8 r7 x1 out6' := rfl
def f54_7b (r7 : (List Int) → (List Int) → Int → Option ((List Int))) (a1 : A5u8N) (k0 : (List Int) → Option ((List Int))) (left5' : List Int) (out6 : List Int) (k8 : Int) : Option ((List Int)) :=
 bif decide ((0 : Int) < (List.length (left5') : Int)) then ((chkI 5 k8).bind fun _ =>
 (ixN [a1.e0, a1.e1, a1.e2, a1.e3, a1.e4] (Int.toNat k8)).bind fun x1 =>
 (chk (decide ((List.length (left5') : Int) ≠ 0))).bind fun _ =>
 joinK (f54_c11 a1 left5' k8 r7 x1) fun k1 =>
 (ix (left5') (Int.tmod x1 (List.length (left5') : Int))).bind fun x6 =>
 (app 8 out6 [x6]).bind fun x7 =>
 k1 x7)
 else (k0 out6)
def f54_7 (a1 : A5u8N) (k0 : (List Int) → Option ((List Int))) : Nat → (List Int) → (List Int) → Int → Option ((List Int))
  | 0, _, _, _ => none
  | n + 1, left5', out6, k8 => f54_7b (f54_7 a1 k0 n) a1 k0 left5' out6 k8
def Lf54_7 (a1 : A5u8N) (k0 : (List Int) → Option ((List Int))) : Lp (Nat × (List Int) × (List Int) × Int) (Nat × Nat) ((List Int)) := ⟨⟨[3, 5, 6, 8], [0, 90005, 90006], [(.slot 5, 90005, 3, 1), (.slot 6, 90006, 3, 1)], []⟩, fun (_, left5', out6, k8) => [.ptr 0 0, .rs 90005 (List.length (left5')), .rs 90006 (List.length out6), .dat (iN k8)], fun (_, left5', out6, _) => [.box [.dat (u8N a1.e0), .dat (u8N a1.e1), .dat (u8N a1.e2), .dat (u8N a1.e3), .dat (u8N a1.e4)], .row 3 1 (List.map iN (left5')), .row 3 1 (List.map iN out6)], fun (n, left5', out6, k8) => f54_7 a1 k0 n left5' out6 k8, fun (_, _, _, k8) (m0, m1) => [.ptr 0 0, .rs 90005 m0, .rs 90006 m1, .dat (iN k8)], fun (_, left5', out6, _) (_, _) => [.box [.dat (u8N a1.e0), .dat (u8N a1.e1), .dat (u8N a1.e2), .dat (u8N a1.e3), .dat (u8N a1.e4)], .row 3 1 (List.map iN (left5')), .row 3 1 (List.map iN out6)], fun (_, left5', out6, _) => (List.length (left5'), List.length out6), fun _ => rfl, fun _ => rfl⟩
theorem Ef54_7 {a1 k0 n left5' out6 k8} : (Lf54_7 a1 k0).E (n, left5', out6, k8) = f54_7 a1 k0 n left5' out6 k8 := rfl
def f54_c6 (a1 : A5u8N) (N : Nat) (left5 : List Int) : Option ((List Int)) :=
 joinK f54_c12 fun k0 =>
 f54_7 a1 k0 N left5 [] (0 : Int)
def Lf54_c6 (a1 : A5u8N) (N : Nat) : Lp ((List Int)) (Nat) ((List Int)) := ⟨⟨[3, 5, 6], [0, 90005], [(.slot 5, 90005, 3, 1)], []⟩, fun left5 => [.ptr 0 0, .rs 90005 (List.length left5), .nil], fun left5 => [.box [.dat (u8N a1.e0), .dat (u8N a1.e1), .dat (u8N a1.e2), .dat (u8N a1.e3), .dat (u8N a1.e4)], .row 3 1 (List.map iN left5)], fun left5 => f54_c6 a1 N left5, fun _ m0 => [.ptr 0 0, .rs 90005 m0, .nil], fun left5 _ => [.box [.dat (u8N a1.e0), .dat (u8N a1.e1), .dat (u8N a1.e2), .dat (u8N a1.e3), .dat (u8N a1.e4)], .row 3 1 (List.map iN left5)], fun left5 => List.length left5, fun _ => rfl, fun _ => rfl⟩
theorem Ef54_c6 {a1 N left5} : (Lf54_c6 a1 N).E left5 = f54_c6 a1 N left5 := rfl
def f54_3b (r3 : (List Int) → Int → Option ((List Int))) (a0 : Int) (a1 : A5u8N) (k2 : (List Int) → Option ((List Int))) (left5 : List Int) (i7 : Int) : Option ((List Int)) :=
 bif decide (i7 < a0) then ((app 8 left5 [i7]).bind fun x8 =>
 r3 x8 (W (i7 + (1 : Int))))
 else (k2 left5)
def f54_3 (a0 : Int) (a1 : A5u8N) (k2 : (List Int) → Option ((List Int))) : Nat → (List Int) → Int → Option ((List Int))
  | 0, _, _ => none
  | n + 1, left5, i7 => f54_3b (f54_3 a0 a1 k2 n) a0 a1 k2 left5 i7
def Lf54_3 (a0 : Int) (a1 : A5u8N) (k2 : (List Int) → Option ((List Int))) : Lp (Nat × (List Int) × Int) (Nat) ((List Int)) := ⟨⟨[0, 3, 5, 6, 7], [0, 90005], [(.slot 5, 90005, 3, 1)], []⟩, fun (_, left5, i7) => [.dat (iN a0), .ptr 0 0, .rs 90005 (List.length left5), .nil, .dat (iN i7)], fun (_, left5, _) => [.box [.dat (u8N a1.e0), .dat (u8N a1.e1), .dat (u8N a1.e2), .dat (u8N a1.e3), .dat (u8N a1.e4)], .row 3 1 (List.map iN left5)], fun (n, left5, i7) => f54_3 a0 a1 k2 n left5 i7, fun (_, _, i7) m0 => [.dat (iN a0), .ptr 0 0, .rs 90005 m0, .nil, .dat (iN i7)], fun (_, left5, _) _ => [.box [.dat (u8N a1.e0), .dat (u8N a1.e1), .dat (u8N a1.e2), .dat (u8N a1.e3), .dat (u8N a1.e4)], .row 3 1 (List.map iN left5)], fun (_, left5, _) => List.length left5, fun _ => rfl, fun _ => rfl⟩
theorem Ef54_3 {a0 a1 k2 n left5 i7} : (Lf54_3 a0 a1 k2).E (n, left5, i7) = f54_3 a0 a1 k2 n left5 i7 := rfl
def f54 (N : Nat) (a0 : Int) (a1 : A5u8N) : Option ((List Int)) :=
 joinK (f54_c6 a1 N) fun k2 =>
 f54_3 a0 a1 k2 N [] (0 : Int)
def G54 (ds : List D) (d : D) : Prop := ∃ (N : Nat) (a0 : Int) (a1 : A5u8N) (r : (List Int)), ds = [iN a0, A5u8N.d a1] ∧ f54 N a0 a1 = some r ∧ d = sl_iN r
theorem G54.step {N : Nat} {a0 : Int} {a1 : A5u8N} {ρ : Type} {A : (List Int) → Option ρ} {q : ρ} {ds : List D} {K : D → Prop} (hd : ds = [iN a0, A5u8N.d a1]) (h : ∀ r, A r = some q → K (sl_iN r)) (hF : (f54 N a0 a1).bind A = some q) : ∃ d, G54 ds d ∧ K d := by
  obtain ⟨r, hr, hA⟩ := bind_some hF
  exact ⟨_, ⟨N, a0, a1, r, hd, hr, rfl⟩, h r hA⟩
set_option maxRecDepth 20000 in
set_option maxHeartbeats 4000000 in
theorem P54 : PureOK Try.prog 54 G54 := by
  refine pure_of_vc (c := mkCtx tyTree []) rfl tyOK (ctx_nil) [[1]] 2 Try.func54 rfl rfl (by decide) (by kernel_rfl) ?_
  rintro ds d ⟨N, a0, a1, r, rfl, hF, rfl⟩ hok
  clear hok
  refine ⟨rfl, ?_⟩
  show vc _ _ _ _ ⟨[(0, .dat (iN a0)), (1, .dat (A5u8N.d a1))], []⟩ _
  unfold f54 at hF
  repeat' (first
    | ((with_reducible first | refine q0 _ _ ?_ | refine q1 _ _ _ _ ?_ | refine q2 _ _ _ ?_); clear Q q0 q1 q2)
    | ((with_reducible first | refine seq_op ?hx (fun Q q0 q1 q2 => ?_) | refine draw_op ?hx (fun Q q0 q1 q2 => ?_)); (case hx => exact rfl); conv => whnf)
    | ((with_reducible refine cond_id ?_); (first | ((refine condKT rfl ?hy ?_); (case hy => first | assumption | exact notT (by assumption) | exact rfl)) | ((refine condKF rfl ?hy ?_); (case hy => first | assumption | exact notF (by assumption) | exact rfl)) | (revert hF; (with_reducible refine condF ?hx ?_ ?_); (case hx => exact rfl); all_goals (intro hc hF))))
    | ((with_reducible refine seq_nil ?_); (first | ((with_reducible refine hR _ ?_); clear R hR) | ((with_reducible refine hL _ ?_); clear L hL)))
    | ((with_reducible refine draw_nil ?_); (with_reducible refine hR _ _ ?hx ?_); (case hx => kernel_rfl); (first | clear R hR | clear hR))
    | ((with_reducible first | refine int_step ?_ | refine len_step ?_ | refine idx2 (by assumption) ?_ | refine idx3 (by assumption) ?_); conv => whnf)
    | (with_reducible first | refine vc_block ?_ | refine vc_skip ?_ | refine vc_ret ?_ | refine vc_exit ?_ | refine vc_region (fun R hR => ?_) | refine k_seq_ret ?_ | refine k_seq_exit ?_ | refine k_blk ?_ | refine k_blk_ret ?_ | refine k_blk_here ?_ | refine k_loop_ret ?_ | refine k_loop_exit ?_)
    | ((with_reducible refine vc_seqN [12, 11, 6] ?hx ?_); (case hx => exact rfl))
    | ((with_reducible refine vc_draw ?hx (fun R hR => ?_)); (case hx => exact rfl))
    | (revert hF; (refine Lp.cut0 Lf54_c12 f54_c12 12 rfl rfl ?_ ?_); (intro hF); rotate_left; (rintro out6 hF; dsimp only [Lf54_c12] at hF; unfold f54_c12 at hF); rotate_right)
    | exact Lp.head Ef54_c12 hF _ ⟨_, rfl, rfl, rfl, rfl⟩ (by first | exact rfl | ((try dsimp only [Lf54_c12]); first | assumption | omega | (simp only [List.length_set]; done)))
    | (revert hF; (refine Lp.cut5 Lf54_c11 f54_c11 11 rfl rfl ?_ ?_); (intro hF); rotate_left; (rintro out6' hF; dsimp only [Lf54_c11] at hF; unfold f54_c11 at hF); rotate_right)
    | exact Lp.head Ef54_c11 hF (_, _) ⟨_, rfl, rfl, rfl, rfl⟩ (pr2 (by first | exact rfl | ((try dsimp only [Lf54_c11]); first | assumption | omega | (simp only [List.length_set]; done))) (by first | exact rfl | ((try dsimp only [Lf54_c11]); first | assumption | omega | (simp only [List.length_set]; done))))
    | (revert hF; (refine Lp.loop Ef54_7 (_, _) rfl ⟨_, rfl, rfl, rfl, rfl⟩ (pr2 (by first | exact rfl | ((try dsimp only [Lf54_7]); first | assumption | omega | (simp only [List.length_set]; done))) (by first | exact rfl | ((try dsimp only [Lf54_7]); first | assumption | omega | (simp only [List.length_set]; done)))) (fun _ => rfl) ?_); rintro n ⟨left5', out6, k8⟩ hF; dsimp only [Lf54_7, f54_7] at hF; unfold f54_7b at hF)
    | exact Lp.back Ef54_7 hF (_, _) ⟨_, rfl, rfl, rfl, rfl⟩ (pr2 (by first | exact rfl | ((try dsimp only [Lf54_7]); first | assumption | omega | (simp only [List.length_set]; done))) (by first | exact rfl | ((try dsimp only [Lf54_7]); first | assumption | omega | (simp only [List.length_set]; done))))
    | (revert hF; (refine Lp.cut2 Lf54_c6 f54_c6 6 rfl rfl ?_ ?_); (intro hF); rotate_left; (rintro left5 hF; dsimp only [Lf54_c6] at hF; unfold f54_c6 at hF); rotate_right)
    | exact Lp.head Ef54_c6 hF _ ⟨_, rfl, rfl, rfl, rfl⟩ (by first | exact rfl | ((try dsimp only [Lf54_c6]); first | assumption | omega | (simp only [List.length_set]; done)))
    | (revert hF; (refine Lp.loop Ef54_3 _ rfl ⟨_, rfl, rfl, rfl, rfl⟩ (by first | exact rfl | ((try dsimp only [Lf54_3]); first | assumption | omega | (simp only [List.length_set]; done))) (fun _ => rfl) ?_); rintro n ⟨left5, i7⟩ hF; dsimp only [Lf54_3, f54_3] at hF; unfold f54_3b at hF)
    | exact Lp.back Ef54_3 hF _ ⟨_, rfl, rfl, rfl, rfl⟩ (by first | exact rfl | ((try dsimp only [Lf54_3]); first | assumption | omega | (simp only [List.length_set]; done)))
    | ((with_reducible have hG := ixN_fact hF); clear hF; (refine box_step (d := u8N) hG (by omega) rfl (fun _ => ⟨_, rfl⟩) (fun x hF => ?_)); clear hG)
    | ((with_reducible refine chkI_go hF ?_); (clear hF; intro hF; conv => whnf))
    | ((with_reducible have hG := ixN_fact hF); clear hF; (first | (refine ixN_one hG (by (try simp only [W]); omega) (fun x hF => ?_)) | (refine ixN_agg hG (fun _ => rfl) (by (try simp only [W]); omega) (fun x hF => ?_))); clear hG; conv => whnf)
    | ((with_reducible have hG := setN_fact hF); clear hF; (first | (refine setN_one hG (by (try simp only [W]); omega) rfl rfl (fun q hF => ?_)) | (refine setN_agg hG (fun _ => rfl) (by (try simp only [W]); omega) rfl rfl (fun q hF => ?_))); clear hG; conv => whnf)
    | ((with_reducible first | refine k_blk_out ?hx ?_ | refine vc_condT ?hx ?_); (case hx => exact rfl))
    | (revert hF; (with_reducible refine idx1 ?hn ?_); (case hn => first | exact rfl | exact (List.length_map _) | assumption | omega | simp); intro x hx hF; conv => whnf)
    | ((with_reducible have hG := sub_fact hF); clear hF; (refine sub_step hG (fun q hF => ?_)); clear hG; conv => whnf)
    | ((with_reducible refine Or.inr ?_); conv => whnf)
    | ((with_reducible have hG := app_fact hF); clear hF; (first | ((refine app_row hG ?hn ?hs (fun q hF => ?_)); (case hn => first | exact rfl | assumption | omega); (case hs => exact rfl)) | ((refine app_nil (d := iN) hG ?hs (fun q hF => ?_)); (case hs => exact rfl)) | ((refine app_gen (d := iN) hG ?ho ?hn ?hs (fun q hF => ?_)); (case ho => exact rfl); (case hn => exact rfl); (case hs => exact rfl))); clear hG; conv => whnf)
    | ((refine row_all ?hn ?_); (case hn => first | exact rfl | (simp; done) | (simp; omega)); conv => whnf)
    | ((with_reducible refine le_step ?hn ?_); (case hn => first | exact rfl | assumption | omega); conv => whnf)
    | ((refine ⟨?hx, ?_⟩); (case hx => exact ⟨rfl, Nat.le_of_ble_eq_true rfl, rfl⟩); conv => whnf)
    | ((with_reducible refine ex_step ?_); conv => whnf)
    | ((with_reducible have hG := chk_fact hF); clear hF; (refine ⟨?hx, ?_⟩); (case hx => (first | exact of_decide_eq_true hG.1 | exact hG.1)); have hF := hG.2; clear hG; conv => whnf)
    | ((with_reducible refine both_T ?hx ?_); (case hx => first | exact rfl | assumption | exact notT (by assumption)); conv => whnf)
    | ((with_reducible refine both_F ?hx ?_); (case hx => first | exact rfl | assumption | exact notF (by assumption)); conv => whnf)
    | (revert hF; (with_reducible refine ite_step ?_ ?_) <;> (intro hc hF; conv => whnf))
    | ((with_reducible refine vc_condF ?hx ?_); (case hx => exact rfl))
    | (show retD _ _ _ _ _ _; conv => whnf)
    | ((refine ⟨?hx, trivial⟩); (case hx => (cases hF; exact rfl)))
    | ((refine ⟨?hx, ?_⟩); (case hx => decide); conv => whnf)
    | with_reducible refine k_seq ?_
    | (have hF : (none : Option _) = some _ := hF; cases hF))
end
end Go.Vc
namespace Go.Vc
open Go.Proofs
set_option linter.unusedVariables false
set_option linter.unnecessarySimpa false
set_option linter.unusedSimpArgs false
section
variable {c : Ctx} {p nid : Nat} {a b : Code} {st : St} {K : Ex → St → Prop}
def f39_c12 (b301 : List (List Int)) : Option ((List (List Int))) :=
 some (b301)
def Lf39_c12 : Lp ((List (List Int))) (Nat) ((List (List Int))) := ⟨⟨[7], [301], [], []⟩, fun b301 => [.rs 301 (List.length b301)], fun b301 => [.nest 27 3 1 none (List.map (List.map iN) b301)], fun b301 => f39_c12 b301, fun _ m0 => [.rs 301 m0], fun b301 _ => [.nest 27 3 1 none (List.map (List.map iN) b301)], fun b301 => List.length b301, fun _ => rfl, fun _ => rfl⟩
theorem Ef39_c12 {b301} : (Lf39_c12).E b301 = f39_c12 b301 := rfl
def f39_c11 (a0 : Plate) (x1 : List Int) (x2 : List Int) (x3 : List Int) (x4 : List (List Int)) (v31 : Int) (r5 : Int → (List (List Int)) → Option ((List (List Int)))) (b301' : List (List Int)) : Option ((List (List Int))) :=
 r5 (W (v31 + (1 : Int))) (b301')
def Lf39_c11 (a0 : Plate) (x1 : List Int) (x2 : List Int) (x3 : List Int) (x4 : List (List Int)) (v31 : Int) (r5 : Int → (List (List Int)) → Option ((List (List Int)))) : Lp ((List (List Int))) (Nat) ((List (List Int))) := ⟨⟨[3, 4, 5, 6, 7, 30, 31], [301], [], []⟩, fun b301' => [.dat (iN (W ((2 : Int) + (Int.tmod a0.Base (4 : Int))))), .dat (sl_iN x1), .dat (sl_iN x2), .dat (sl_iN x3), .rs 301 (List.length (b301')), .dat (iN (List.length x4 : Int)), .dat (iN v31)], fun b301' => [.nest 27 3 1 none (List.map (List.map iN) (b301'))], fun b301' => f39_c11 a0 x1 x2 x3 x4 v31 r5 b301', fun _ m0 => [.dat (iN (W ((2 : Int) + (Int.tmod a0.Base (4 : Int))))), .dat (sl_iN x1), .dat (sl_iN x2), .dat (sl_iN x3), .rs 301 m0, .dat (iN (List.length x4 : Int)), .dat (iN v31)], fun b301' _ => [.nest 27 3 1 none (List.map (List.map iN) (b301'))], fun b301' => List.length (b301'), fun _ => rfl, fun _ => rfl⟩
theorem Ef39_c11 {a0 x1 x2 x3 x4 v31 r5 b301'} : (Lf39_c11 a0 x1 x2 x3 x4 v31 r5).E b301' = f39_c11 a0 x1 x2 x3 x4 v31 r5 b301' := rfl
def f39_8b (r8 : Int → (List (List Int)) → Option ((List (List Int)))) (a0 : Plate) (x1 : List Int) (x2 : List Int) (x3 : List Int) (x4 : List (List Int)) (v31 : Int) (k1 : (List (List Int)) → Option ((List (List Int)))) (d9 : Int) (b301' : List (List Int)) : Option ((List (List Int))) :=
 bif decide (d9 < (W ((2 : Int) + (Int.tmod a0.Base (4 : Int))))) then ((ix (b301') v31).bind fun x5 =>
 (ix x1 v31).bind fun x6 =>
 (ix x2 d9).bind fun x7 =>
 (chk (decide ((W ((2 : Int) + (Int.tmod a0.Base (4 : Int)))) ≠ 0))).bind fun _ =>
 (ix x3 (Int.tmod (W (x6 + x7)) (W ((2 : Int) + (Int.tmod a0.Base (4 : Int)))))).bind fun x8 =>
 (app 8 x5 [x8]).bind fun x9 =>
 (ix (b301') v31).bind fun x10 =>
 (setx (b301') v31 x9).bind fun x11 =>
 r8 (W (d9 + (1 : Int))) x11)
 else (k1 (b301'))
def f39_8 (a0 : Plate) (x1 : List Int) (x2 : List Int) (x3 : List Int) (x4 : List (List Int)) (v31 : Int) (k1 : (List (List Int)) → Option ((List (List Int)))) : Nat → Int → (List (List Int)) → Option ((List (List Int)))
  | 0, _, _ => none
  | n + 1, d9, b301' => f39_8b (f39_8 a0 x1 x2 x3 x4 v31 k1 n) a0 x1 x2 x3 x4 v31 k1 d9 b301'
def Lf39_8 (a0 : Plate) (x1 : List Int) (x2 : List Int) (x3 : List Int) (x4 : List (List Int)) (v31 : Int) (k1 : (List (List Int)) → Option ((List (List Int)))) : Lp (Nat × Int × (List (List Int))) (Nat) ((List (List Int))) := ⟨⟨[3, 4, 5, 6, 7, 8, 9, 30, 31], [301], [], []⟩, fun (_, d9, b301') => [.dat (iN (W ((2 : Int) + (Int.tmod a0.Base (4 : Int))))), .dat (sl_iN x1), .dat (sl_iN x2), .dat (sl_iN x3), .rs 301 (List.length (b301')), .dat (iN v31), .dat (iN d9), .dat (iN (List.length x4 : Int)), .dat (iN v31)], fun (_, _, b301') => [.nest 27 3 1 none (List.map (List.map iN) (b301'))], fun (n, d9, b301') => f39_8 a0 x1 x2 x3 x4 v31 k1 n d9 b301', fun (_, d9, _) m0 => [.dat (iN (W ((2 : Int) + (Int.tmod a0.Base (4 : Int))))), .dat (sl_iN x1), .dat (sl_iN x2), .dat (sl_iN x3), .rs 301 m0, .dat (iN v31), .dat (iN d9), .dat (iN (List.length x4 : Int)), .dat (iN v31)], fun (_, _, b301') _ => [.nest 27 3 1 none (List.map (List.map iN) (b301'))], fun (_, _, b301') => List.length (b301'), fun _ => rfl, fun _ => rfl⟩
theorem Ef39_8 {a0 x1 x2 x3 x4 v31 k1 n d9 b301'} : (Lf39_8 a0 x1 x2 x3 x4 v31 k1).E (n, d9, b301') = f39_8 a0 x1 x2 x3 x4 v31 k1 n d9 b301' := rfl
def f39_5b (r5 : Int → (List (List Int)) → Option ((List (List Int)))) (a0 : Plate) (N : Nat) (x1 : List Int) (x2 : List Int) (x3 : List Int) (x4 : List (List Int)) (k0 : (List (List Int)) → Option ((List (List Int)))) (v31 : Int) (b301 : List (List Int)) : Option ((List (List Int))) :=
 bif decide (v31 < (List.length x4 : Int)) then (joinK (f39_c11 a0 x1 x2 x3 x4 v31 r5) fun k1 =>
 f39_8 a0 x1 x2 x3 x4 v31 k1 N (0 : Int) b301)
 else (k0 b301)
def f39_5 (a0 : Plate) (N : Nat) (x1 : List Int) (x2 : List Int) (x3 : List Int) (x4 : List (List Int)) (k0 : (List (List Int)) → Option ((List (List Int)))) : Nat → Int → (List (List Int)) → Option ((List (List Int)))
  | 0, _, _ => none
  | n + 1, v31, b301 => f39_5b (f39_5 a0 N x1 x2 x3 x4 k0 n) a0 N x1 x2 x3 x4 k0 v31 b301
def Lf39_5 (a0 : Plate) (N : Nat) (x1 : List Int) (x2 : List Int) (x3 : List Int) (x4 : List (List Int)) (k0 : (List (List Int)) → Option ((List (List Int)))) : Lp (Nat × Int × (List (List Int))) (Nat) ((List (List Int))) := ⟨⟨[3, 4, 5, 6, 7, 30, 31], [301], [], []⟩, fun (_, v31, b301) => [.dat (iN (W ((2 : Int) + (Int.tmod a0.Base (4 : Int))))), .dat (sl_iN x1), .dat (sl_iN x2), .dat (sl_iN x3), .rs 301 (List.length b301), .dat (iN (List.length x4 : Int)), .dat (iN v31)], fun (_, _, b301) => [.nest 27 3 1 none (List.map (List.map iN) b301)], fun (n, v31, b301) => f39_5 a0 N x1 x2 x3 x4 k0 n v31 b301, fun (_, v31, _) m0 => [.dat (iN (W ((2 : Int) + (Int.tmod a0.Base (4 : Int))))), .dat (sl_iN x1), .dat (sl_iN x2), .dat (sl_iN x3), .rs 301 m0, .dat (iN (List.length x4 : Int)), .dat (iN v31)], fun (_, _, b301) _ => [.nest 27 3 1 none (List.map (List.map iN) b301)], fun (_, _, b301) => List.length b301, fun _ => rfl, fun _ => rfl⟩
theorem Ef39_5 {a0 N x1 x2 x3 x4 k0 n v31 b301} : (Lf39_5 a0 N x1 x2 x3 x4 k0).E (n, v31, b301) = f39_5 a0 N x1 x2 x3 x4 k0 n v31 b301 := rfl
def f39 (N : Nat) (a0 : Plate) : Option ((List (List Int))) :=
 (f54 N (W ((2 : Int) + (Int.tmod a0.Base (4 : Int)))) a0.Rows).bind fun x1 =>
 (f54 N (W ((2 : Int) + (Int.tmod a0.Base (4 : Int)))) a0.Columns).bind fun x2 =>
 (f54 N (W ((2 : Int) + (Int.tmod a0.Base (4 : Int)))) a0.Numbers).bind fun x3 =>
 (mkS 24 [] (W ((2 : Int) + (Int.tmod a0.Base (4 : Int)))) (W ((2 : Int) + (Int.tmod a0.Base (4 : Int))))).bind fun x4 =>
 joinK f39_c12 fun k0 =>
 f39_5 a0 N x1 x2 x3 x4 k0 N (0 : Int) x4
def G39 (ds : List D) (d : D) : Prop := ∃ (N : Nat) (a0 : Plate) (r : (List (List Int))), ds = [Plate.d a0] ∧ f39 N a0 = some r ∧ d = sl_sl_iN r
theorem G39.step {N : Nat} {a0 : Plate} {ρ : Type} {A : (List (List Int)) → Option ρ} {q : ρ} {ds : List D} {K : D → Prop} (hd : ds = [Plate.d a0]) (h : ∀ r, A r = some q → K (sl_sl_iN r)) (hF : (f39 N a0).bind A = some q) : ∃ d, G39 ds d ∧ K d := by
  obtain ⟨r, hr, hA⟩ := bind_some hF
  exact ⟨_, ⟨N, a0, r, hd, hr, rfl⟩, h r hA⟩
set_option maxRecDepth 20000 in
set_option maxHeartbeats 4000000 in
theorem P39 : PureOK Try.prog 39 G39 := by
  refine pure_of_vc (c := mkCtx tyTree [(54, true, purePg [[0], [0, 0, 0, 0, 0]] G54)]) rfl tyOK (ctx_cons (callable Try.func54 rfl rfl) P54 (ctx_nil)) [[1]] 1 Try.func39 rfl rfl (by decide) (by kernel_rfl) ?_
  rintro ds d ⟨N, a0, r, rfl, hF, rfl⟩ hok
  clear hok
  refine ⟨rfl, ?_⟩
  show vc _ _ _ _ ⟨[(0, .dat (Plate.d a0))], []⟩ _
  unfold f39 at hF
  repeat' (first
    | ((with_reducible first | refine q0 _ _ ?_ | refine q1 _ _ _ _ ?_ | refine q2 _ _ _ ?_); clear Q q0 q1 q2)
    | ((with_reducible first | refine seq_op ?hx (fun Q q0 q1 q2 => ?_) | refine draw_op ?hx (fun Q q0 q1 q2 => ?_) | refine seq_op0 ?hx (fun Q q0 q1 q2 => ?_) | refine draw_op0 ?hx (fun Q q0 q1 q2 => ?_)); (case hx => exact rfl); conv => whnf)
    | ((with_reducible refine cond_id ?_); (first | ((refine condKT rfl ?hy ?_); (case hy => first | assumption | exact notT (by assumption) | exact rfl)) | ((refine condKF rfl ?hy ?_); (case hy => first | assumption | exact notF (by assumption) | exact rfl)) | (revert hF; (with_reducible refine condF ?hx ?_ ?_); (case hx => exact rfl); all_goals (intro hc hF))))
    | ((with_reducible refine seq_nil ?_); (first | ((with_reducible refine hR _ ?_); clear R hR) | ((with_reducible refine hL _ ?_); clear L hL)))
    | ((with_reducible refine draw_nil ?_); (with_reducible refine hR _ _ ?hx ?_); (case hx => kernel_rfl); (first | clear R hR | clear hR))
    | ((with_reducible first | refine int_step ?_ | refine len_step ?_ | refine idx2 (by assumption) ?_ | refine idx3 (by assumption) ?_); conv => whnf)
    | (with_reducible first | refine vc_block ?_ | refine vc_skip ?_ | refine vc_ret ?_ | refine vc_exit ?_ | refine vc_region (fun R hR => ?_) | refine k_seq_ret ?_ | refine k_seq_exit ?_ | refine k_blk ?_ | refine k_blk_ret ?_ | refine k_blk_here ?_ | refine k_loop_ret ?_ | refine k_loop_exit ?_)
    | ((with_reducible refine vc_seqN [12, 11] ?hx ?_); (case hx => exact rfl))
    | ((with_reducible refine vc_draw ?hx (fun R hR => ?_)); (case hx => exact rfl))
    | (revert hF; (refine Lp.cut0 Lf39_c12 f39_c12 12 rfl rfl ?_ ?_); (intro hF); rotate_left; (rintro b301 hF; dsimp only [Lf39_c12] at hF; unfold f39_c12 at hF); rotate_right)
    | exact Lp.head Ef39_c12 hF _ ⟨_, rfl, rfl, rfl, rfl⟩ (by first | exact rfl | ((try dsimp only [Lf39_c12]); first | assumption | omega | (simp only [List.length_set]; done)))
    | (revert hF; (refine Lp.cut7 Lf39_c11 f39_c11 11 rfl rfl ?_ ?_); (intro hF); rotate_left; (rintro b301' hF; dsimp only [Lf39_c11] at hF; unfold f39_c11 at hF); rotate_right)
    | exact Lp.head Ef39_c11 hF _ ⟨_, rfl, rfl, rfl, rfl⟩ (by first | exact rfl | ((try dsimp only [Lf39_c11]); first | assumption | omega | (simp only [List.length_set]; done)))
    | (revert hF; (refine Lp.loop Ef39_8 _ rfl ⟨_, rfl, rfl, rfl, rfl⟩ (by first | exact rfl | ((try dsimp only [Lf39_8]); first | assumption | omega | (simp only [List.length_set]; done))) (fun _ => rfl) ?_); rintro n ⟨d9, b301'⟩ hF; dsimp only [Lf39_8, f39_8] at hF; unfold f39_8b at hF)
    | exact Lp.back Ef39_8 hF _ ⟨_, rfl, rfl, rfl, rfl⟩ (by first | exact rfl | ((try dsimp only [Lf39_8]); first | assumption | omega | (simp only [List.length_set]; done)))
    | (revert hF; (refine Lp.loop Ef39_5 _ rfl ⟨_, rfl, rfl, rfl, rfl⟩ (by first | exact rfl | ((try dsimp only [Lf39_5]); first | assumption | omega | (simp only [List.length_set]; done))) (fun _ => rfl) ?_); rintro n ⟨v31, b301⟩ hF; dsimp only [Lf39_5, f39_5] at hF; unfold f39_5b at hF)
    | exact Lp.back Ef39_5 hF _ ⟨_, rfl, rfl, rfl, rfl⟩ (by first | exact rfl | ((try dsimp only [Lf39_5]); first | assumption | omega | (simp only [List.length_set]; done)))
    | (revert hF; (with_reducible refine G54.step ?hx ?_); (case hx => exact rfl); intro v hF; conv => whnf)
    | (revert hF; (refine mkS_nest (d := iN) ?_); intro x hF; conv => whnf)
    | ((refine take_step (d := iN) (by assumption) ?_); conv => whnf)
    | ((with_reducible have hG := setx_fact hF); clear hF; (refine put_row (d := iN) hG ?hn ?ho (fun q hl hF => ?_)); (case hn => first | exact rfl | assumption | omega); (case ho => (rintro p h; first | cases h; done | (cases h; rfl))); clear hG; conv => whnf)
    | ((refine nest_all (e := sl_iN) (d := iN) (fun _ => rfl) ?hn ?_); (case hn => first | exact rfl | assumption | omega); conv => whnf)
    | ((with_reducible first | refine k_blk_out ?hx ?_ | refine vc_condT ?hx ?_); (case hx => exact rfl))
    | (revert hF; (with_reducible refine idx1 ?hn ?_); (case hn => first | exact rfl | exact (List.length_map _) | assumption | omega | simp); intro x hx hF; conv => whnf)
    | ((with_reducible have hG := app_fact hF); clear hF; (first | ((refine app_row hG ?hn ?hs (fun q hF => ?_)); (case hn => first | exact rfl | assumption | omega); (case hs => exact rfl)) | ((refine app_nil (d := iN) hG ?hs (fun q hF => ?_)); (case hs => exact rfl)) | ((refine app_gen (d := iN) hG ?ho ?hn ?hs (fun q hF => ?_)); (case ho => exact rfl); (case hn => exact rfl); (case hs => exact rfl))); clear hG; conv => whnf)
    | ((refine row_all ?hn ?_); (case hn => first | exact rfl | (simp; done) | (simp; omega)); conv => whnf)
    | ((with_reducible refine le_step ?hn ?_); (case hn => first | exact rfl | assumption | omega); conv => whnf)
    | ((with_reducible have hG := setx_fact hF); clear hF; (refine setx_step hG ?hs (fun q hl hF => ?_)); (case hs => exact rfl); clear hG; conv => whnf)
    | ((refine ⟨?hx, ?_⟩); (case hx => exact ⟨rfl, Nat.le_of_ble_eq_true rfl, rfl⟩); conv => whnf)
    | ((with_reducible refine ex_step ?_); conv => whnf)
    | ((with_reducible have hG := chk_fact hF); clear hF; (refine ⟨?hx, ?_⟩); (case hx => (first | exact of_decide_eq_true hG.1 | exact hG.1)); have hF := hG.2; clear hG; conv => whnf)
    | ((with_reducible refine both_T ?hx ?_); (case hx => first | exact rfl | assumption | exact notT (by assumption)); conv => whnf)
    | ((with_reducible refine both_F ?hx ?_); (case hx => first | exact rfl | assumption | exact notF (by assumption)); conv => whnf)
    | (revert hF; (with_reducible refine ite_step ?_ ?_) <;> (intro hc hF; conv => whnf))
    | ((with_reducible refine vc_condF ?hx ?_); (case hx => exact rfl))
    | (show retD _ _ _ _ _ _; conv => whnf)
    | ((refine ⟨?hx, trivial⟩); (case hx => (cases hF; exact rfl)))
    | ((refine ⟨?hx, ?_⟩); (case hx => decide); conv => whnf)
    | with_reducible refine k_seq ?_
    | (have hF : (none : Option _) = some _ := hF; cases hF))
end
end Go.Vc
namespace Go.Vc
open Go.Proofs
set_option linter.unusedVariables false
set_option linter.unnecessarySimpa false
set_option linter.unusedSimpArgs false
section
variable {c : Ctx} {p nid : Nat} {a b : Code} {st : St} {K : Ex → St → Prop}
def f40_c7 (s5 : Int) : Option (Int) :=
 some (s5)
def Lf40_c7 : Lp (Int) Unit (Int) := lp0 ⟨[5], [], [], []⟩ (fun s5 => [.dat (iN s5)]) (fun _ => []) (fun s5 => f40_c7 s5)
theorem Ef40_c7 {s5} : (Lf40_c7).E s5 = f40_c7 s5 := rfl
def f40_3b (r3 : Int → Int → Option (Int)) (a0 : List (List Int)) (a1 : List Int) (k0 : Int → Option (Int)) (s5 : Int) (v10 : Int) : Option (Int) :=
 bif decide (v10 < (List.length a1 : Int)) then ((ix a1 v10).bind fun x1 =>
 (ix a0 s5).bind fun x2 =>
 (ix x2 x1).bind fun x3 =>
 r3 x3 (W (v10 + (1 : Int))))
 else (k0 s5)
def f40_3 (a0 : List (List Int)) (a1 : List Int) (k0 : Int → Option (Int)) : Nat → Int → Int → Option (Int)
  | 0, _, _ => none
  | n + 1, s5, v10 => f40_3b (f40_3 a0 a1 k0 n) a0 a1 k0 s5 v10
def Lf40_3 (a0 : List (List Int)) (a1 : List Int) (k0 : Int → Option (Int)) : Lp (Nat × Int × Int) Unit (Int) := lp0 ⟨[0, 5, 8, 9, 10], [], [], []⟩ (fun (_, s5, v10) => [.dat (sl_sl_iN a0), .dat (iN s5), .dat (sl_iN a1), .dat (iN (List.length a1 : Int)), .dat (iN v10)]) (fun (_, _, _) => []) (fun (n, s5, v10) => f40_3 a0 a1 k0 n s5 v10)
theorem Ef40_3 {a0 a1 k0 n s5 v10} : (Lf40_3 a0 a1 k0).E (n, s5, v10) = f40_3 a0 a1 k0 n s5 v10 := rfl
def f40 (N : Nat) (a0 : List (List Int)) (a1 : List Int) : Option (Int) :=
 joinK f40_c7 fun k0 =>
 f40_3 a0 a1 k0 N (0 : Int) (0 : Int)
def G40 (ds : List D) (d : D) : Prop := ∃ (N : Nat) (a0 : List (List Int)) (a1 : List Int) (r : Int), ds = [sl_sl_iN a0, sl_iN a1] ∧ f40 N a0 a1 = some r ∧ d = iN r
theorem G40.lend {N : Nat} {a0 : List (List Int)} {a1 : List Int} {ρ : Type} {A : Int → Option ρ} {q : ρ} {ds : List D} {K : D → Prop} (hd : ds = [sl_sl_iN a0, sl_iN a1]) (h : ∀ r, A r = some q → K (iN r)) (hF : (f40 N a0 a1).bind A = some q) : ∃ d, (G40 ds d ∧ d.flatB = true) ∧ K d := by
  obtain ⟨r, hr, hA⟩ := bind_some hF
  exact ⟨_, ⟨⟨N, a0, a1, r, hd, hr, rfl⟩, rfl⟩, h r hA⟩
set_option maxRecDepth 20000 in
set_option maxHeartbeats 4000000 in
theorem P40 : PureOK Try.prog 40 G40 := by
  refine pure_of_vc (c := mkCtx tyTree []) rfl tyOK (ctx_nil) [[0]] 2 Try.func40 rfl rfl (by decide) (by kernel_rfl) ?_
  rintro ds d ⟨N, a0, a1, r, rfl, hF, rfl⟩ hok
  clear hok
  refine ⟨rfl, ?_⟩
  show vc _ _ _ _ ⟨[(0, .dat (sl_sl_iN a0)), (1, .dat (sl_iN a1))], []⟩ _
  unfold f40 at hF
  repeat' (first
    | ((with_reducible first | refine q0 _ _ ?_ | refine q1 _ _ _ _ ?_ | refine q2 _ _ _ ?_); clear Q q0 q1 q2)
    | ((with_reducible first | refine seq_op ?hx (fun Q q0 q1 q2 => ?_)); (case hx => exact rfl); conv => whnf)
    | ((with_reducible refine cond_id ?_); (first | ((refine condKT rfl ?hy ?_); (case hy => first | assumption | exact notT (by assumption) | exact rfl)) | ((refine condKF rfl ?hy ?_); (case hy => first | assumption | exact notF (by assumption) | exact rfl)) | (revert hF; (with_reducible refine condF ?hx ?_ ?_); (case hx => exact rfl); all_goals (intro hc hF))))
    | ((with_reducible refine seq_nil ?_); (first | ((with_reducible refine hR _ ?_); clear R hR) | ((with_reducible refine hL _ ?_); clear L hL)))
    | ((with_reducible first | refine int_step ?_ | refine len_step ?_ | refine idx2 (by assumption) ?_ | refine idx3 (by assumption) ?_); conv => whnf)
    | (with_reducible first | refine vc_block ?_ | refine vc_skip ?_ | refine vc_ret ?_ | refine vc_exit ?_ | refine vc_region (fun R hR => ?_) | refine k_seq_ret ?_ | refine k_seq_exit ?_ | refine k_blk ?_ | refine k_blk_ret ?_ | refine k_blk_here ?_ | refine k_loop_ret ?_ | refine k_loop_exit ?_)
    | ((with_reducible refine vc_seqN [7] ?hx ?_); (case hx => exact rfl))
    | (revert hF; (refine Lp.cut0 Lf40_c7 f40_c7 7 rfl rfl ?_ ?_); (intro hF); rotate_left; (rintro s5 hF; dsimp only [Lf40_c7] at hF; unfold f40_c7 at hF); rotate_right)
    | exact Lp.head Ef40_c7 hF () ⟨_, rfl, rfl, rfl, rfl⟩ rfl
    | (revert hF; (refine Lp.loop Ef40_3 () rfl ⟨_, rfl, rfl, rfl, rfl⟩ rfl (fun _ => rfl) ?_); rintro n ⟨s5, v10⟩ hF; dsimp only [Lf40_3, f40_3] at hF; unfold f40_3b at hF)
    | exact Lp.back Ef40_3 hF () ⟨_, rfl, rfl, rfl, rfl⟩ rfl
    | ((with_reducible first | refine k_blk_out ?hx ?_ | refine vc_condT ?hx ?_); (case hx => exact rfl))
    | (revert hF; (with_reducible refine idx1 ?hn ?_); (case hn => first | exact rfl | exact (List.length_map _) | assumption | omega | simp); intro x hx hF; conv => whnf)
    | ((refine row_all ?hn ?_); (case hn => first | exact rfl | (simp; done) | (simp; omega)); conv => whnf)
    | ((with_reducible refine le_step ?hn ?_); (case hn => first | exact rfl | assumption | omega); conv => whnf)
    | ((refine ⟨?hx, ?_⟩); (case hx => exact ⟨rfl, Nat.le_of_ble_eq_true rfl, rfl⟩); conv => whnf)
    | ((with_reducible refine ex_step ?_); conv => whnf)
    | ((with_reducible refine both_T ?hx ?_); (case hx => first | exact rfl | assumption | exact notT (by assumption)); conv => whnf)
    | ((with_reducible refine both_F ?hx ?_); (case hx => first | exact rfl | assumption | exact notF (by assumption)); conv => whnf)
    | (revert hF; (with_reducible refine ite_step ?_ ?_) <;> (intro hc hF; conv => whnf))
    | ((with_reducible refine vc_condF ?hx ?_); (case hx => exact rfl))
    | (show retD _ _ _ _ _ _; conv => whnf)
    | ((refine ⟨?hx, trivial⟩); (case hx => (cases hF; exact rfl)))
    | ((refine ⟨?hx, ?_⟩); (case hx => decide); conv => whnf)
    | with_reducible refine k_seq ?_
    | (have hF : (none : Option _) = some _ := hF; cases hF))
end
end Go.Vc
namespace Go.Vc
open Go.Proofs
set_option linter.unusedVariables false
set_option linter.unnecessarySimpa false
set_option linter.unusedSimpArgs false
section
variable {c : Ctx} {p nid : Nat} {a b : Code} {st : St} {K : Ex → St → Prop}
def f79 (N : Nat) (a0 : Int) (a1 : Int) : Option ((List Int) × (List Int)) :=
 some ([a0, a0], [a1, a1])
def G79 (ds : List D) (d : D) : Prop := ∃ (N : Nat) (a0 : Int) (a1 : Int) (r : (List Int) × (List Int)), ds = [iN a0, iN a1] ∧ f79 N a0 a1 = some r ∧ d = .tup [sl_iN r.1, sl_iN r.2]
theorem G79.step {N : Nat} {a0 : Int} {a1 : Int} {ρ : Type} {A : ((List Int) × (List Int)) → Option ρ} {q : ρ} {ds : List D} {K : D → Prop} (hd : ds = [iN a0, iN a1]) (h : ∀ r, A r = some q → K (.tup [sl_iN r.1, sl_iN r.2])) (hF : (f79 N a0 a1).bind A = some q) : ∃ d, G79 ds d ∧ K d := by
  obtain ⟨r, hr, hA⟩ := bind_some hF
  exact ⟨_, ⟨N, a0, a1, r, hd, hr, rfl⟩, h r hA⟩
set_option maxRecDepth 20000 in
set_option maxHeartbeats 4000000 in
theorem P79 : PureOK Try.prog 79 G79 := by
  refine pure_of_vc (c := mkCtx tyTree []) rfl tyOK (ctx_nil) [[1], [1]] 2 Try.func79 rfl rfl (by decide) (by kernel_rfl) ?_
  rintro ds d ⟨N, a0, a1, r, rfl, hF, rfl⟩ hok
  clear hok
  refine ⟨rfl, ?_⟩
  show vc _ _ _ _ ⟨[(0, .dat (iN a0)), (1, .dat (iN a1))], []⟩ _
  unfold f79 at hF
  repeat' (first
    | ((with_reducible first | refine q0 _ _ ?_ | refine q1 _ _ _ _ ?_ | refine q2 _ _ _ ?_); clear Q q0 q1 q2)
    | ((with_reducible first | refine seq_op ?hx (fun Q q0 q1 q2 => ?_)); (case hx => exact rfl); conv => whnf)
    | ((with_reducible refine seq_nil ?_); (first | ((with_reducible refine hR _ ?_); clear R hR) | ((with_reducible refine hL _ ?_); clear L hL)))
    | ((with_reducible first | refine int_step ?_); conv => whnf)
    | (with_reducible first | refine vc_skip ?_ | refine vc_ret ?_ | refine vc_region (fun R hR => ?_) | refine k_seq_ret ?_)
    | ((with_reducible refine vc_seqN [] ?hx ?_); (case hx => exact rfl))
    | ((refine row_all ?hn ?_); (case hn => first | exact rfl | (simp; done) | (simp; omega)); conv => whnf)
    | ((with_reducible refine le_step ?hn ?_); (case hn => first | exact rfl | assumption | omega); conv => whnf)
    | ((refine ⟨?hx, ?_⟩); (case hx => exact ⟨rfl, Nat.le_of_ble_eq_true rfl, rfl⟩); conv => whnf)
    | ((with_reducible refine ex_step ?_); conv => whnf)
    | ((with_reducible refine both_T ?hx ?_); (case hx => first | exact rfl | assumption | exact notT (by assumption)); conv => whnf)
    | ((with_reducible refine both_F ?hx ?_); (case hx => first | exact rfl | assumption | exact notF (by assumption)); conv => whnf)
    | (revert hF; (with_reducible refine ite_step ?_ ?_) <;> (intro hc hF; conv => whnf))
    | (show retD _ _ _ _ _ _; conv => whnf)
    | ((refine ⟨?hx, trivial⟩); (case hx => (cases hF; exact rfl)))
    | ((refine ⟨?hx, ?_⟩); (case hx => decide); conv => whnf)
    | with_reducible refine k_seq ?_
    | (have hF : (none : Option _) = some _ := hF; cases hF))
end
end Go.Vc
namespace Go.Vc
open Go.Proofs
set_option linter.unusedVariables false
set_option linter.unnecessarySimpa false
set_option linter.unusedSimpArgs false
section
variable {c : Ctx} {p nid : Nat} {a b : Code} {st : St} {K : Ex → St → Prop}
def f45_i101_c20 (N : Nat) (out7 : List Spot) : Option ((List Spot) × Int) :=
 (f96 N (Wk .u64 ((List.length out7 : Int)))).bind fun x2 =>
 (f95 N (0 : Int) (List.length out7 : Int) x2 out7).bind fun x3 =>
 (keepL out7 x3).bind fun x4 =>
 some (x4, (0 : Int))
def Lf45_i101_c20 (N : Nat) : Lp ((List Spot)) (Nat) ((List Spot) × Int) := ⟨⟨[7], [102090007], [(.slot 7, 102090007, 73, 3)], []⟩, fun out7 => [.rs 102090007 (List.length out7)], fun out7 => [.row 73 3 (List.map Spot.d out7)], fun out7 => f45_i101_c20 N out7, fun _ m0 => [.rs 102090007 m0], fun out7 _ => [.row 73 3 (List.map Spot.d out7)], fun out7 => List.length out7, fun _ => rfl, fun _ => rfl⟩
theorem Ef45_i101_c20 {N out7} : (Lf45_i101_c20 N).E out7 = f45_i101_c20 N out7 := rfl
def f45_i101_c19 (a0 : List (List Int)) (v20 : Int) (r6 : (List Spot) → Int → Option ((List Spot) × Int)) (out7' : List Spot) : Option ((List Spot) × Int) :=
 r6 (out7') (W (v20 + (1 : Int)))
def Lf45_i101_c19 (a0 : List (List Int)) (v20 : Int) (r6 : (List Spot) → Int → Option ((List Spot) × Int)) : Lp ((List Spot)) (Nat) ((List Spot) × Int) := ⟨⟨[0, 1, 7, 19, 20], [102090007], [(.slot 7, 102090007, 73, 3)], []⟩, fun out7' => [.dat (sl_sl_iN a0), .dat (.v (.func (.func 79) #[] #[])), .rs 102090007 (List.length (out7')), .dat (iN (List.length a0 : Int)), .dat (iN v20)], fun out7' => [.row 73 3 (List.map Spot.d (out7'))], fun out7' => f45_i101_c19 a0 v20 r6 out7', fun _ m0 => [.dat (sl_sl_iN a0), .dat (.v (.func (.func 79) #[] #[])), .rs 102090007 m0, .dat (iN (List.length a0 : Int)), .dat (iN v20)], fun out7' _ => [.row 73 3 (List.map Spot.d (out7'))], fun out7' => List.length (out7'), fun _ => rfl, fun _ => rfl⟩
theorem Ef45_i101_c19 {a0 v20 r6 out7'} : (Lf45_i101_c19 a0 v20 r6).E out7' = f45_i101_c19 a0 v20 r6 out7' := rfl
def f45_i101_c18 (a0 : List (List Int)) (v20 : Int) (v25 : Int) (r9 : (List Spot) → Int → Option ((List Spot) × Int)) (out7'' : List Spot) : Option ((List Spot) × Int) :=
 r9 (out7'') (W (v25 + (1 : Int)))
def Lf45_i101_c18 (a0 : List (List Int)) (v20 : Int) (v25 : Int) (r9 : (List Spot) → Int → Option ((List Spot) × Int)) : Lp ((List Spot)) (Nat) ((List Spot) × Int) := ⟨⟨[0, 1, 7, 8, 19, 20, 24, 25], [102090007], [(.slot 7, 102090007, 73, 3)], []⟩, fun out7'' => [.dat (sl_sl_iN a0), .dat (.v (.func (.func 79) #[] #[])), .rs 102090007 (List.length (out7'')), .dat (iN v20), .dat (iN (List.length a0 : Int)), .dat (iN v20), .dat (iN (List.length a0 : Int)), .dat (iN v25)], fun out7'' => [.row 73 3 (List.map Spot.d (out7''))], fun out7'' => f45_i101_c18 a0 v20 v25 r9 out7'', fun _ m0 => [.dat (sl_sl_iN a0), .dat (.v (.func (.func 79) #[] #[])), .rs 102090007 m0, .dat (iN v20), .dat (iN (List.length a0 : Int)), .dat (iN v20), .dat (iN (List.length a0 : Int)), .dat (iN v25)], fun out7'' _ => [.row 73 3 (List.map Spot.d (out7''))], fun out7'' => List.length (out7''), fun _ => rfl, fun _ => rfl⟩
theorem Ef45_i101_c18 {a0 v20 v25 r9 out7''} : (Lf45_i101_c18 a0 v20 v25 r9).E out7'' = f45_i101_c18 a0 v20 v25 r9 out7'' := rfl
def f45_i101_12b (r12 : (List Spot) → Int → Option ((List Spot) × Int)) (a0 : List (List Int)) (N : Nat) (v20 : Int) (v25 : Int) (k2 : (List Spot) → Option ((List Spot) × Int)) (out7'' : List Spot) (v29 : Int) : Option ((List Spot) × Int) :=
 bif decide (v29 < v25) then ((f79 N v29 v25).bind fun x5 =>
 (f59 N a0 v20 x5.1).bind fun x6 =>
 (f59 N a0 v20 x5.2).bind fun x7 =>
 bif decide (x6 = x7) then ((app 24 (out7'') [(Spot.mk v20 v29 v25)]).bind fun x8 =>
 r12 x8 (W (v29 + (1 : Int))))
 else (r12 (out7'') (W (v29 + (1 : Int)))))
 else (k2 (out7''))
def f45_i101_12 (a0 : List (List Int)) (N : Nat) (v20 : Int) (v25 : Int) (k2 : (List Spot) → Option ((List Spot) × Int)) : Nat → (List Spot) → Int → Option ((List Spot) × Int)
  | 0, _, _ => none
  | n + 1, out7'', v29 => f45_i101_12b (f45_i101_12 a0 N v20 v25 k2 n) a0 N v20 v25 k2 out7'' v29
def Lf45_i101_12 (a0 : List (List Int)) (N : Nat) (v20 : Int) (v25 : Int) (k2 : (List Spot) → Option ((List Spot) × Int)) : Lp (Nat × (List Spot) × Int) (Nat) ((List Spot) × Int) := ⟨⟨[0, 1, 7, 8, 9, 19, 20, 24, 25, 28, 29], [102090007], [(.slot 7, 102090007, 73, 3)], []⟩, fun (_, out7'', v29) => [.dat (sl_sl_iN a0), .dat (.v (.func (.func 79) #[] #[])), .rs 102090007 (List.length (out7'')), .dat (iN v20), .dat (iN v25), .dat (iN (List.length a0 : Int)), .dat (iN v20), .dat (iN (List.length a0 : Int)), .dat (iN v25), .dat (iN v25), .dat (iN v29)], fun (_, out7'', _) => [.row 73 3 (List.map Spot.d (out7''))], fun (n, out7'', v29) => f45_i101_12 a0 N v20 v25 k2 n out7'' v29, fun (_, _, v29) m0 => [.dat (sl_sl_iN a0), .dat (.v (.func (.func 79) #[] #[])), .rs 102090007 m0, .dat (iN v20), .dat (iN v25), .dat (iN (List.length a0 : Int)), .dat (iN v20), .dat (iN (List.length a0 : Int)), .dat (iN v25), .dat (iN v25), .dat (iN v29)], fun (_, out7'', _) _ => [.row 73 3 (List.map Spot.d (out7''))], fun (_, out7'', _) => List.length (out7''), fun _ => rfl, fun _ => rfl⟩
theorem Ef45_i101_12 {a0 N v20 v25 k2 n out7'' v29} : (Lf45_i101_12 a0 N v20 v25 k2).E (n, out7'', v29) = f45_i101_12 a0 N v20 v25 k2 n out7'' v29 := rfl
def f45_i101_9b (r9 : (List Spot) → Int → Option ((List Spot) × Int)) (a0 : List (List Int)) (N : Nat) (v20 : Int) (k1 : (List Spot) → Option ((List Spot) × Int)) (out7' : List Spot) (v25 : Int) : Option ((List Spot) × Int) :=
 bif decide (v25 < (List.length a0 : Int)) then (joinK (f45_i101_c18 a0 v20 v25 r9) fun k2 =>
 f45_i101_12 a0 N v20 v25 k2 N (out7') (0 : Int))
 else (k1 (out7'))
def f45_i101_9 (a0 : List (List Int)) (N : Nat) (v20 : Int) (k1 : (List Spot) → Option ((List Spot) × Int)) : Nat → (List Spot) → Int → Option ((List Spot) × Int)
  | 0, _, _ => none
  | n + 1, out7', v25 => f45_i101_9b (f45_i101_9 a0 N v20 k1 n) a0 N v20 k1 out7' v25
def Lf45_i101_9 (a0 : List (List Int)) (N : Nat) (v20 : Int) (k1 : (List Spot) → Option ((List Spot) × Int)) : Lp (Nat × (List Spot) × Int) (Nat) ((List Spot) × Int) := ⟨⟨[0, 1, 7, 8, 19, 20, 24, 25], [102090007], [(.slot 7, 102090007, 73, 3)], []⟩, fun (_, out7', v25) => [.dat (sl_sl_iN a0), .dat (.v (.func (.func 79) #[] #[])), .rs 102090007 (List.length (out7')), .dat (iN v20), .dat (iN (List.length a0 : Int)), .dat (iN v20), .dat (iN (List.length a0 : Int)), .dat (iN v25)], fun (_, out7', _) => [.row 73 3 (List.map Spot.d (out7'))], fun (n, out7', v25) => f45_i101_9 a0 N v20 k1 n out7' v25, fun (_, _, v25) m0 => [.dat (sl_sl_iN a0), .dat (.v (.func (.func 79) #[] #[])), .rs 102090007 m0, .dat (iN v20), .dat (iN (List.length a0 : Int)), .dat (iN v20), .dat (iN (List.length a0 : Int)), .dat (iN v25)], fun (_, out7', _) _ => [.row 73 3 (List.map Spot.d (out7'))], fun (_, out7', _) => List.length (out7'), fun _ => rfl, fun _ => rfl⟩
theorem Ef45_i101_9 {a0 N v20 k1 n out7' v25} : (Lf45_i101_9 a0 N v20 k1).E (n, out7', v25) = f45_i101_9 a0 N v20 k1 n out7' v25 := rfl
def f45_i101_6b (r6 : (List Spot) → Int → Option ((List Spot) × Int)) (a0 : List (List Int)) (N : Nat) (k0 : (List Spot) → Option ((List Spot) × Int)) (out7 : List Spot) (v20 : Int) : Option ((List Spot) × Int) :=
 bif decide (v20 < (List.length a0 : Int)) then (joinK (f45_i101_c19 a0 v20 r6) fun k1 =>
 f45_i101_9 a0 N v20 k1 N out7 (0 : Int))
 else (k0 out7)
def f45_i101_6 (a0 : List (List Int)) (N : Nat) (k0 : (List Spot) → Option ((List Spot) × Int)) : Nat → (List Spot) → Int → Option ((List Spot) × Int)
  | 0, _, _ => none
  | n + 1, out7, v20 => f45_i101_6b (f45_i101_6 a0 N k0 n) a0 N k0 out7 v20
def Lf45_i101_6 (a0 : List (List Int)) (N : Nat) (k0 : (List Spot) → Option ((List Spot) × Int)) : Lp (Nat × (List Spot) × Int) (Nat) ((List Spot) × Int) := ⟨⟨[0, 1, 7, 19, 20], [102090007], [(.slot 7, 102090007, 73, 3)], []⟩, fun (_, out7, v20) => [.dat (sl_sl_iN a0), .dat (.v (.func (.func 79) #[] #[])), .rs 102090007 (List.length out7), .dat (iN (List.length a0 : Int)), .dat (iN v20)], fun (_, out7, _) => [.row 73 3 (List.map Spot.d out7)], fun (n, out7, v20) => f45_i101_6 a0 N k0 n out7 v20, fun (_, _, v20) m0 => [.dat (sl_sl_iN a0), .dat (.v (.func (.func 79) #[] #[])), .rs 102090007 m0, .dat (iN (List.length a0 : Int)), .dat (iN v20)], fun (_, out7, _) _ => [.row 73 3 (List.map Spot.d out7)], fun (_, out7, _) => List.length out7, fun _ => rfl, fun _ => rfl⟩
theorem Ef45_i101_6 {a0 N k0 n out7 v20} : (Lf45_i101_6 a0 N k0).E (n, out7, v20) = f45_i101_6 a0 N k0 n out7 v20 := rfl
def f45 (N : Nat) (a0 : List (List Int)) : Option ((List Spot) × Int) :=
 (f49 N a0).bind fun x1 =>
 bif decide (¬ x1 = (0 : Int)) then (some ([], x1))
 else (joinK (f45_i101_c20 N) fun k0 =>
 f45_i101_6 a0 N k0 N [] (0 : Int))
def G45 (ds : List D) (d : D) : Prop := ∃ (N : Nat) (a0 : List (List Int)) (r : (List Spot) × Int), ds = [sl_sl_iN a0] ∧ f45 N a0 = some r ∧ d = .tup [sl_Spot r.1, iN r.2]
theorem G45.step {N : Nat} {a0 : List (List Int)} {ρ : Type} {A : ((List Spot) × Int) → Option ρ} {q : ρ} {ds : List D} {K : D → Prop} (hd : ds = [sl_sl_iN a0]) (h : ∀ r, A r = some q → K (.tup [sl_Spot r.1, iN r.2])) (hF : (f45 N a0).bind A = some q) : ∃ d, G45 ds d ∧ K d := by
  obtain ⟨r, hr, hA⟩ := bind_some hF
  exact ⟨_, ⟨N, a0, r, hd, hr, rfl⟩, h r hA⟩
set_option maxRecDepth 20000 in
set_option maxHeartbeats 4000000 in
theorem P45 : PureOK Try.prog 45 G45 := by
  refine pure_of_vc (c := mkCtx tyTree [(76, false, inlPg (mkCtx tyTree [(90, false, inlPg (mkCtx tyTree [(95, false, effPg Spf95 G95), (96, true, lendPg [[0]] G96)]) Try.f90), (79, true, purePg [[0], [0]] G79), (59, true, lendPg [[1], [0], [1]] G59), (49, true, lendPg [[1]] G49)]) Try.f76)]) rfl tyOK (ctx_eff (callable Try.func76 rfl rfl) (CallOK.inl rfl tyOK (ctx_eff (callable Try.func90 rfl rfl) (CallOK.inl rfl tyOK (ctx_eff (callable Try.func95 rfl rfl) P95 (ctx_lend (callable Try.func96 rfl rfl) P96 (ctx_nil))) Try.func90 (by kernel_rfl)) (ctx_cons (callable Try.func79 rfl rfl) P79 (ctx_lend (callable Try.func59 rfl rfl) P59 (ctx_lend (callable Try.func49 rfl rfl) P49 (ctx_nil))))) Try.func76 (by kernel_rfl)) (ctx_nil)) [[3], [0]] 1 Try.func45 rfl rfl (by decide) (by kernel_rfl) ?_
  rintro ds d ⟨N, a0, r, rfl, hF, rfl⟩ hok
  clear hok
  refine ⟨rfl, ?_⟩
  show vc _ _ _ _ ⟨[(0, .dat (sl_sl_iN a0))], []⟩ _
  unfold f45 at hF
  repeat' (first
    | ((with_reducible first | refine q0 _ _ ?_ | refine q1 _ _ _ _ ?_ | refine q2 _ _ _ ?_); clear Q q0 q1 q2)
    | ((with_reducible first | refine seq_op ?hx (fun Q q0 q1 q2 => ?_)); (case hx => exact rfl); conv => whnf)
    | ((with_reducible refine cond_id ?_); (first | ((refine condKT rfl ?hy ?_); (case hy => first | assumption | exact notT (by assumption) | exact rfl)) | ((refine condKF rfl ?hy ?_); (case hy => first | assumption | exact notF (by assumption) | exact rfl)) | (revert hF; (with_reducible refine condF ?hx ?_ ?_); (case hx => exact rfl); all_goals (intro hc hF))))
    | ((with_reducible refine seq_nil ?_); (first | ((with_reducible refine hR _ ?_); clear R hR) | ((with_reducible refine hL _ ?_); clear L hL)))
    | ((with_reducible first | refine int_step ?_ | refine len_step ?_); conv => whnf)
    | (with_reducible first | refine vc_block ?_ | refine vc_skip ?_ | refine vc_ret ?_ | refine vc_exit ?_ | refine vc_region (fun R hR => ?_) | refine k_seq_ret ?_ | refine k_seq_exit ?_ | refine k_blk ?_ | refine k_blk_ret ?_ | refine k_blk_here ?_ | refine k_loop_ret ?_ | refine k_loop_exit ?_)
    | ((with_reducible refine vc_seqN [102000000020, 102000000019, 102000000018] ?hx ?_); (case hx => exact rfl))
    | (revert hF; (refine Lp.cut1 Lf45_i101_c20 f45_i101_c20 102000000020 rfl rfl ?_ ?_); (intro hF); rotate_left; (rintro out7 hF; dsimp only [Lf45_i101_c20] at hF; unfold f45_i101_c20 at hF); rotate_right)
    | exact Lp.head Ef45_i101_c20 hF _ ⟨_, rfl, rfl, rfl, rfl⟩ (by first | exact rfl | ((try dsimp only [Lf45_i101_c20]); first | assumption | omega | (simp only [List.length_set]; done)))
    | (revert hF; (refine Lp.cut3 Lf45_i101_c19 f45_i101_c19 102000000019 rfl rfl ?_ ?_); (intro hF); rotate_left; (rintro out7' hF; dsimp only [Lf45_i101_c19] at hF; unfold f45_i101_c19 at hF); rotate_right)
    | exact Lp.head Ef45_i101_c19 hF _ ⟨_, rfl, rfl, rfl, rfl⟩ (by first | exact rfl | ((try dsimp only [Lf45_i101_c19]); first | assumption | omega | (simp only [List.length_set]; done)))
    | (revert hF; (refine Lp.cut4 Lf45_i101_c18 f45_i101_c18 102000000018 rfl rfl ?_ ?_); (intro hF); rotate_left; (rintro out7'' hF; dsimp only [Lf45_i101_c18] at hF; unfold f45_i101_c18 at hF); rotate_right)
    | exact Lp.head Ef45_i101_c18 hF _ ⟨_, rfl, rfl, rfl, rfl⟩ (by first | exact rfl | ((try dsimp only [Lf45_i101_c18]); first | assumption | omega | (simp only [List.length_set]; done)))
    | (revert hF; (refine Lp.loop Ef45_i101_12 _ rfl ⟨_, rfl, rfl, rfl, rfl⟩ (by first | exact rfl | ((try dsimp only [Lf45_i101_12]); first | assumption | omega | (simp only [List.length_set]; done))) (fun _ => rfl) ?_); rintro n ⟨out7'', v29⟩ hF; dsimp only [Lf45_i101_12, f45_i101_12] at hF; unfold f45_i101_12b at hF)
    | exact Lp.back Ef45_i101_12 hF _ ⟨_, rfl, rfl, rfl, rfl⟩ (by first | exact rfl | ((try dsimp only [Lf45_i101_12]); first | assumption | omega | (simp only [List.length_set]; done)))
    | (revert hF; (refine Lp.loop Ef45_i101_9 _ rfl ⟨_, rfl, rfl, rfl, rfl⟩ (by first | exact rfl | ((try dsimp only [Lf45_i101_9]); first | assumption | omega | (simp only [List.length_set]; done))) (fun _ => rfl) ?_); rintro n ⟨out7', v25⟩ hF; dsimp only [Lf45_i101_9, f45_i101_9] at hF; unfold f45_i101_9b at hF)
    | exact Lp.back Ef45_i101_9 hF _ ⟨_, rfl, rfl, rfl, rfl⟩ (by first | exact rfl | ((try dsimp only [Lf45_i101_9]); first | assumption | omega | (simp only [List.length_set]; done)))
    | (revert hF; (refine Lp.loop Ef45_i101_6 _ rfl ⟨_, rfl, rfl, rfl, rfl⟩ (by first | exact rfl | ((try dsimp only [Lf45_i101_6]); first | assumption | omega | (simp only [List.length_set]; done))) (fun _ => rfl) ?_); rintro n ⟨out7, v20⟩ hF; dsimp only [Lf45_i101_6, f45_i101_6] at hF; unfold f45_i101_6b at hF)
    | exact Lp.back Ef45_i101_6 hF _ ⟨_, rfl, rfl, rfl, rfl⟩ (by first | exact rfl | ((try dsimp only [Lf45_i101_6]); first | assumption | omega | (simp only [List.length_set]; done)))
    | (revert hF; (with_reducible refine G49.lend ?hx ?_); (case hx => exact rfl); intro v hF; conv => whnf)
    | (revert hF; (with_reducible refine G59.lend ?hx ?_); (case hx => exact rfl); intro v hF; conv => whnf)
    | (revert hF; (with_reducible refine G79.step ?hx ?_); (case hx => exact rfl); intro v hF; conv => whnf)
    | (revert hF; (with_reducible refine G96.lend ?hx ?_); (case hx => exact rfl); intro v hF; conv => whnf)
    | (revert hF; (refine G95.step rfl rfl (by first | exact rfl | assumption | omega | (simp only [List.length_set]; done)) rfl ?hn ?_); (case hn => exact rfl); intro v hF; conv => whnf)
    | ((with_reducible have hG := keep_fact hF); have hk := hG.1; have hF := hG.2; clear hG)
    | ((with_reducible first | refine k_blk_out ?hx ?_ | refine vc_condT ?hx ?_); (case hx => exact rfl))
    | ((with_reducible have hG := app_fact hF); clear hF; (first | ((refine app_row hG ?hn ?hs (fun q hF => ?_)); (case hn => first | exact rfl | assumption | omega); (case hs => exact rfl)) | ((refine app_nil (d := Spot.d) hG ?hs (fun q hF => ?_)); (case hs => exact rfl)) | ((refine app_gen (d := Spot.d) hG ?ho ?hn ?hs (fun q hF => ?_)); (case ho => exact rfl); (case hn => exact rfl); (case hs => exact rfl))); clear hG; conv => whnf)
    | ((refine row_all ?hn ?_); (case hn => first | exact rfl | (simp; done) | (simp; omega)); conv => whnf)
    | ((with_reducible refine le_step ?hn ?_); (case hn => first | exact rfl | assumption | omega); conv => whnf)
    | ((refine ⟨?hx, ?_⟩); (case hx => exact ⟨rfl, Nat.le_of_ble_eq_true rfl, rfl⟩); conv => whnf)
    | ((with_reducible refine ex_step ?_); conv => whnf)
    | ((with_reducible refine both_T ?hx ?_); (case hx => first | exact rfl | assumption | exact notT (by assumption)); conv => whnf)
    | ((with_reducible refine both_F ?hx ?_); (case hx => first | exact rfl | assumption | exact notF (by assumption)); conv => whnf)
    | (revert hF; (with_reducible refine ite_step ?_ ?_) <;> (intro hc hF; conv => whnf))
    | ((with_reducible refine vc_condF ?hx ?_); (case hx => exact rfl))
    | (show retD _ _ _ _ _ _; conv => whnf)
    | ((refine inl_step ?ha ?hb ?hc rfl ?_); (case ha => exact rfl); (case hb => omega); (case hc => exact Nat.le_of_ble_eq_true rfl))
    | (show Kinl _ _ _ _ _ _ _; conv => whnf)
    | ((with_reducible refine kinl_step ?ha ?hb ?_); (case ha => exact rfl); (case hb => exact rfl); conv => whnf)
    | ((refine ⟨?hx, trivial⟩); (case hx => (cases hF; exact rfl)))
    | ((refine ⟨?hx, ?_⟩); (case hx => decide); conv => whnf)
    | with_reducible refine k_seq ?_
    | (have hF : (none : Option _) = some _ := hF; cases hF))
end
end Go.Vc
namespace Go.Vc
open Go.Proofs
set_option linter.unusedVariables false
set_option linter.unnecessarySimpa false
set_option linter.unusedSimpArgs false
section
variable {c : Ctx} {p nid : Nat} {a b : Code} {st : St} {K : Ex → St → Prop}
def f10_i1806_c8 (a1 : Int) (N : Nat) (x1 : List (List Int)) (b700 : List (Spot × Bool)) (b701 : List (Spot × Bool)) (r2 : (List Int) → Option (Bool)) (l7' : List Int) (i8' : Int) : Option (Bool) :=
 bif decide ((i8') < (0 : Int)) then ((f15 N ).bind fun x5 =>
 some (x5))
 else ((ix (l7') (i8')).bind fun x6 =>
 (ix (l7') (i8')).bind fun x7 =>
 (setx (l7') (i8') (W (x6 + (1 : Int)))).bind fun x8 =>
 r2 x8)
def Lf10_i1806_c8 (a1 : Int) (N : Nat) (x1 : List (List Int)) (b700 : List (Spot × Bool)) (b701 : List (Spot × Bool)) (r2 : (List Int) → Option (Bool)) : Lp ((List Int) × Int) (Nat) (Bool) := ⟨⟨[0, 1, 2, 7, 8], [102, 202, 700, 701, 702, 703, 1807090007], [(.slot 7, 1807090007, 3, 1)], []⟩, fun (l7', i8') => [.dat (iN (List.length x1 : Int)), .dat (iN (W ((2 : Int) + (Int.tmod a1 (2 : Int))))), .fn 52 [] [.ptr 102 0, .ptr 202 0, .ptr 703 0, .ptr 702 0], .rs 1807090007 (List.length (l7')), .dat (iN (i8'))], fun (l7', _) => [.box [.dat (sl_sl_iN x1)], .box [.dat (iN (List.length x1 : Int))], .mp (encM Spot.d bN b700), .mp (encM Spot.d bN b701), .box [.mp 700], .box [.mp 701], .row 3 1 (List.map iN (l7'))], fun (l7', i8') => f10_i1806_c8 a1 N x1 b700 b701 r2 l7' i8', fun (_, i8') m0 => [.dat (iN (List.length x1 : Int)), .dat (iN (W ((2 : Int) + (Int.tmod a1 (2 : Int))))), .fn 52 [] [.ptr 102 0, .ptr 202 0, .ptr 703 0, .ptr 702 0], .rs 1807090007 m0, .dat (iN (i8'))], fun (l7', _) _ => [.box [.dat (sl_sl_iN x1)], .box [.dat (iN (List.length x1 : Int))], .mp (encM Spot.d bN b700), .mp (encM Spot.d bN b701), .box [.mp 700], .box [.mp 701], .row 3 1 (List.map iN (l7'))], fun (l7', _) => List.length (l7'), fun _ => rfl, fun _ => rfl⟩
theorem Ef10_i1806_c8 {a1 N x1 b700 b701 r2 l7' i8'} : (Lf10_i1806_c8 a1 N x1 b700 b701 r2).E (l7', i8') = f10_i1806_c8 a1 N x1 b700 b701 r2 l7' i8' := rfl
def f10_i1806_5b (r5 : (List Int) → Int → Option (Bool)) (a1 : Int) (x1 : List (List Int)) (b700 : List (Spot × Bool)) (b701 : List (Spot × Bool)) (k0 : (List Int) → Int → Option (Bool)) (l7' : List Int) (i8' : Int) : Option (Bool) :=
 bif decide ((0 : Int) ≤ (i8')) then ((ix (l7') (i8')).bind fun x9 =>
 bif decide (x9 = (W ((List.length x1 : Int) - (1 : Int)))) then ((ix (l7') (i8')).bind fun x10 =>
 (setx (l7') (i8') (0 : Int)).bind fun x11 =>
 r5 x11 (W ((i8') - (1 : Int))))
 else (k0 (l7') (i8')))
 else (k0 (l7') (i8'))
def f10_i1806_5 (a1 : Int) (x1 : List (List Int)) (b700 : List (Spot × Bool)) (b701 : List (Spot × Bool)) (k0 : (List Int) → Int → Option (Bool)) : Nat → (List Int) → Int → Option (Bool)
  | 0, _, _ => none
  | n + 1, l7', i8' => f10_i1806_5b (f10_i1806_5 a1 x1 b700 b701 k0 n) a1 x1 b700 b701 k0 l7' i8'
def Lf10_i1806_5 (a1 : Int) (x1 : List (List Int)) (b700 : List (Spot × Bool)) (b701 : List (Spot × Bool)) (k0 : (List Int) → Int → Option (Bool)) : Lp (Nat × (List Int) × Int) (Nat) (Bool) := ⟨⟨[0, 1, 2, 7, 8], [102, 202, 700, 701, 702, 703, 1807090007], [(.slot 7, 1807090007, 3, 1)], []⟩, fun (_, l7', i8') => [.dat (iN (List.length x1 : Int)), .dat (iN (W ((2 : Int) + (Int.tmod a1 (2 : Int))))), .fn 52 [] [.ptr 102 0, .ptr 202 0, .ptr 703 0, .ptr 702 0], .rs 1807090007 (List.length (l7')), .dat (iN (i8'))], fun (_, l7', _) => [.box [.dat (sl_sl_iN x1)], .box [.dat (iN (List.length x1 : Int))], .mp (encM Spot.d bN b700), .mp (encM Spot.d bN b701), .box [.mp 700], .box [.mp 701], .row 3 1 (List.map iN (l7'))], fun (n, l7', i8') => f10_i1806_5 a1 x1 b700 b701 k0 n l7' i8', fun (_, _, i8') m0 => [.dat (iN (List.length x1 : Int)), .dat (iN (W ((2 : Int) + (Int.tmod a1 (2 : Int))))), .fn 52 [] [.ptr 102 0, .ptr 202 0, .ptr 703 0, .ptr 702 0], .rs 1807090007 m0, .dat (iN (i8'))], fun (_, l7', _) _ => [.box [.dat (sl_sl_iN x1)], .box [.dat (iN (List.length x1 : Int))], .mp (encM Spot.d bN b700), .mp (encM Spot.d bN b701), .box [.mp 700], .box [.mp 701], .row 3 1 (List.map iN (l7'))], fun (_, l7', _) => List.length (l7'), fun _ => rfl, fun _ => rfl⟩
theorem Ef10_i1806_5 {a1 x1 b700 b701 k0 n l7' i8'} : (Lf10_i1806_5 a1 x1 b700 b701 k0).E (n, l7', i8') = f10_i1806_5 a1 x1 b700 b701 k0 n l7' i8' := rfl
def f10_i1806_c4 (a1 : Int) (N : Nat) (x1 : List (List Int)) (b700 : List (Spot × Bool)) (b701 : List (Spot × Bool)) (l7 : List Int) (r2 : (List Int) → Option (Bool)) : Option (Bool) :=
 joinK (f10_i1806_c8 a1 N x1 b700 b701 r2) fun k0 =>
 f10_i1806_5 a1 x1 b700 b701 k0 N l7 (W ((W ((2 : Int) + (Int.tmod a1 (2 : Int)))) - (1 : Int)))
def Lf10_i1806_c4 (a1 : Int) (N : Nat) (x1 : List (List Int)) (b700 : List (Spot × Bool)) (b701 : List (Spot × Bool)) (l7 : List Int) (r2 : (List Int) → Option (Bool)) : Lp (Unit) (Nat) (Bool) := ⟨⟨[0, 1, 2, 7], [102, 202, 700, 701, 702, 703, 1807090007], [], []⟩, fun _ => [.dat (iN (List.length x1 : Int)), .dat (iN (W ((2 : Int) + (Int.tmod a1 (2 : Int))))), .fn 52 [] [.ptr 102 0, .ptr 202 0, .ptr 703 0, .ptr 702 0], .rs 1807090007 (List.length l7)], fun _ => [.box [.dat (sl_sl_iN x1)], .box [.dat (iN (List.length x1 : Int))], .mp (encM Spot.d bN b700), .mp (encM Spot.d bN b701), .box [.mp 700], .box [.mp 701], .row 3 1 (List.map iN l7)], fun _ => f10_i1806_c4 a1 N x1 b700 b701 l7 r2, fun _ m0 => [.dat (iN (List.length x1 : Int)), .dat (iN (W ((2 : Int) + (Int.tmod a1 (2 : Int))))), .fn 52 [] [.ptr 102 0, .ptr 202 0, .ptr 703 0, .ptr 702 0], .rs 1807090007 m0], fun _ _ => [.box [.dat (sl_sl_iN x1)], .box [.dat (iN (List.length x1 : Int))], .mp (encM Spot.d bN b700), .mp (encM Spot.d bN b701), .box [.mp 700], .box [.mp 701], .row 3 1 (List.map iN l7)], fun _ => List.length l7, fun _ => rfl, fun _ => rfl⟩
theorem Ef10_i1806_c4 {a1 N x1 b700 b701 l7 r2} : (Lf10_i1806_c4 a1 N x1 b700 b701 l7 r2).E () = f10_i1806_c4 a1 N x1 b700 b701 l7 r2 := rfl
def f10_i1806_i1807000202_c27 (x1 : List (List Int)) (b700 : List (Spot × Bool)) (b701 : List (Spot × Bool)) (l7 : List Int) (k1 : Option (Bool)) : Option (Bool) :=
 k1
def Lf10_i1806_i1807000202_c27 (x1 : List (List Int)) (b700 : List (Spot × Bool)) (b701 : List (Spot × Bool)) (l7 : List Int) (k1 : Option (Bool)) : Lp (Unit) Unit (Bool) := lp0 ⟨[], [102, 202, 700, 701, 702, 703, 1807090007], [], []⟩ (fun _ => []) (fun _ => [.box [.dat (sl_sl_iN x1)], .box [.dat (iN (List.length x1 : Int))], .mp (encM Spot.d bN b700), .mp (encM Spot.d bN b701), .box [.mp 700], .box [.mp 701], .row 3 1 (List.map iN l7)]) (fun _ => f10_i1806_i1807000202_c27 x1 b700 b701 l7 k1)
theorem Ef10_i1806_i1807000202_c27 {x1 b700 b701 l7 k1} : (Lf10_i1806_i1807000202_c27 x1 b700 b701 l7 k1).E () = f10_i1806_i1807000202_c27 x1 b700 b701 l7 k1 := rfl
def f10_i1806_i1807000202_c26 (x1 : List (List Int)) (b700 : List (Spot × Bool)) (b701 : List (Spot × Bool)) (l7 : List Int) (v28 : Int) (r6 : Int → Option (Bool)) : Option (Bool) :=
 r6 (W (v28 + (1 : Int)))
def Lf10_i1806_i1807000202_c26 (x1 : List (List Int)) (b700 : List (Spot × Bool)) (b701 : List (Spot × Bool)) (l7 : List Int) (v28 : Int) (r6 : Int → Option (Bool)) : Lp (Unit) (Nat) (Bool) := ⟨⟨[0, 1, 2, 3, 4, 27, 28], [102, 202, 700, 701, 702, 703, 1807090007], [], []⟩, fun _ => [.rs 1807090007 (List.length l7), .ptr 102 0, .ptr 202 0, .ptr 703 0, .ptr 702 0, .dat (iN (List.length l7 : Int)), .dat (iN v28)], fun _ => [.box [.dat (sl_sl_iN x1)], .box [.dat (iN (List.length x1 : Int))], .mp (encM Spot.d bN b700), .mp (encM Spot.d bN b701), .box [.mp 700], .box [.mp 701], .row 3 1 (List.map iN l7)], fun _ => f10_i1806_i1807000202_c26 x1 b700 b701 l7 v28 r6, fun _ m0 => [.rs 1807090007 m0, .ptr 102 0, .ptr 202 0, .ptr 703 0, .ptr 702 0, .dat (iN (List.length l7 : Int)), .dat (iN v28)], fun _ _ => [.box [.dat (sl_sl_iN x1)], .box [.dat (iN (List.length x1 : Int))], .mp (encM Spot.d bN b700), .mp (encM Spot.d bN b701), .box [.mp 700], .box [.mp 701], .row 3 1 (List.map iN l7)], fun _ => List.length l7, fun _ => rfl, fun _ => rfl⟩
theorem Ef10_i1806_i1807000202_c26 {x1 b700 b701 l7 v28 r6} : (Lf10_i1806_i1807000202_c26 x1 b700 b701 l7 v28 r6).E () = f10_i1806_i1807000202_c26 x1 b700 b701 l7 v28 r6 := rfl
def f10_i1806_i1807000202_c20 (N : Nat) (x1 : List (List Int)) (b700 : List (Spot × Bool)) (b701 : List (Spot × Bool)) (l7 : List Int) (v28 : Int) (k3 : Option (Bool)) : Option (Bool) :=
 bif decide ((W (v28 + (1 : Int))) < (List.length l7 : Int)) then ((ix l7 v28).bind fun x15 =>
 (ix l7 (W (v28 + (1 : Int)))).bind fun x16 =>
 bif decide (¬ x15 = x16) then ((app 8 [] l7).bind fun x17 =>
 (ix x17 (W (v28 + (1 : Int)))).bind fun x18 =>
 (ix x17 v28).bind fun x19 =>
 (ix x17 v28).bind fun x20 =>
 (setx x17 v28 x18).bind fun x21 =>
 (ix x21 (W (v28 + (1 : Int)))).bind fun x22 =>
 (setx x21 (W (v28 + (1 : Int))) x19).bind fun x23 =>
 (vw l7 v28).bind fun x24 =>
 (f40 N x1 (List.take x24 l7)).bind fun x25 =>
 (ix l7 v28).bind fun x26 =>
 (ix l7 (W (v28 + (1 : Int)))).bind fun x27 =>
 (ix l7 v28).bind fun x28 =>
 (ix l7 (W (v28 + (1 : Int)))).bind fun x29 =>
 (f27 N x1 x23).bind fun x30 =>
 (some (lookK false (Spot.mk x25 (min x26 x27) (max x28 x29)) b700)).bind fun x31 =>
 bif !((decide (x30 = (0 : Int))) == x31.1) then (some (false))
 else k3)
 else k3)
 else k3
def Lf10_i1806_i1807000202_c20 (N : Nat) (x1 : List (List Int)) (b700 : List (Spot × Bool)) (b701 : List (Spot × Bool)) (l7 : List Int) (v28 : Int) (k3 : Option (Bool)) : Lp (Unit) (Nat) (Bool) := ⟨⟨[0, 1, 2, 3, 4, 7, 27, 28], [102, 202, 700, 701, 702, 703, 1807090007], [], []⟩, fun _ => [.rs 1807090007 (List.length l7), .ptr 102 0, .ptr 202 0, .ptr 703 0, .ptr 702 0, .dat (iN v28), .dat (iN (List.length l7 : Int)), .dat (iN v28)], fun _ => [.box [.dat (sl_sl_iN x1)], .box [.dat (iN (List.length x1 : Int))], .mp (encM Spot.d bN b700), .mp (encM Spot.d bN b701), .box [.mp 700], .box [.mp 701], .row 3 1 (List.map iN l7)], fun _ => f10_i1806_i1807000202_c20 N x1 b700 b701 l7 v28 k3, fun _ m0 => [.rs 1807090007 m0, .ptr 102 0, .ptr 202 0, .ptr 703 0, .ptr 702 0, .dat (iN v28), .dat (iN (List.length l7 : Int)), .dat (iN v28)], fun _ _ => [.box [.dat (sl_sl_iN x1)], .box [.dat (iN (List.length x1 : Int))], .mp (encM Spot.d bN b700), .mp (encM Spot.d bN b701), .box [.mp 700], .box [.mp 701], .row 3 1 (List.map iN l7)], fun _ => List.length l7, fun _ => rfl, fun _ => rfl⟩
theorem Ef10_i1806_i1807000202_c20 {N x1 b700 b701 l7 v28 k3} : (Lf10_i1806_i1807000202_c20 N x1 b700 b701 l7 v28 k3).E () = f10_i1806_i1807000202_c20 N x1 b700 b701 l7 v28 k3 := rfl
def f10_i1806_i1807000202_9b (r9 : Int → Option (Bool)) (N : Nat) (x1 : List (List Int)) (b700 : List (Spot × Bool)) (b701 : List (Spot × Bool)) (l7 : List Int) (v28 : Int) (k4 : Option (Bool)) (v8 : Int) : Option (Bool) :=
 bif decide (v8 < (List.length x1 : Int)) then ((app 8 [] l7).bind fun x32 =>
 (ix x32 v28).bind fun x33 =>
 (setx x32 v28 v8).bind fun x34 =>
 (f27 N x1 x34).bind fun x35 =>
 (ix l7 v28).bind fun x36 =>
 bif !((decide (x35 = (0 : Int))) == (decide (v8 = x36))) then (some (false))
 else (bif decide ((W (v28 + (1 : Int))) < (List.length l7 : Int)) then ((ix l7 v28).bind fun x37 =>
 (ix l7 (W (v28 + (1 : Int)))).bind fun x38 =>
 bif decide (x37 = x38) then ((ix l7 v28).bind fun x39 =>
 bif decide (¬ v8 = x39) then ((ix x34 (W (v28 + (1 : Int)))).bind fun x40 =>
 (setx x34 (W (v28 + (1 : Int))) v8).bind fun x41 =>
 (vw l7 v28).bind fun x42 =>
 (f40 N x1 (List.take x42 l7)).bind fun x43 =>
 (ix l7 v28).bind fun x44 =>
 (ix l7 v28).bind fun x45 =>
 (f27 N x1 x41).bind fun x46 =>
 (some (lookK false (Spot.mk x43 (min v8 x44) (max v8 x45)) b701)).bind fun x47 =>
 bif !((decide (x46 = (0 : Int))) == x47.1) then (some (false))
 else (r9 (W (v8 + (1 : Int)))))
 else (r9 (W (v8 + (1 : Int)))))
 else (r9 (W (v8 + (1 : Int)))))
 else (r9 (W (v8 + (1 : Int))))))
 else k4
def f10_i1806_i1807000202_9 (N : Nat) (x1 : List (List Int)) (b700 : List (Spot × Bool)) (b701 : List (Spot × Bool)) (l7 : List Int) (v28 : Int) (k4 : Option (Bool)) : Nat → Int → Option (Bool)
  | 0, _ => none
  | n + 1, v8 => f10_i1806_i1807000202_9b (f10_i1806_i1807000202_9 N x1 b700 b701 l7 v28 k4 n) N x1 b700 b701 l7 v28 k4 v8
def Lf10_i1806_i1807000202_9 (N : Nat) (x1 : List (List Int)) (b700 : List (Spot × Bool)) (b701 : List (Spot × Bool)) (l7 : List Int) (v28 : Int) (k4 : Option (Bool)) : Lp (Nat × Int) (Nat) (Bool) := ⟨⟨[0, 1, 2, 3, 4, 7, 8, 27, 28], [102, 202, 700, 701, 702, 703, 1807090007], [], []⟩, fun (_, v8) => [.rs 1807090007 (List.length l7), .ptr 102 0, .ptr 202 0, .ptr 703 0, .ptr 702 0, .dat (iN v28), .dat (iN v8), .dat (iN (List.length l7 : Int)), .dat (iN v28)], fun (_, _) => [.box [.dat (sl_sl_iN x1)], .box [.dat (iN (List.length x1 : Int))], .mp (encM Spot.d bN b700), .mp (encM Spot.d bN b701), .box [.mp 700], .box [.mp 701], .row 3 1 (List.map iN l7)], fun (n, v8) => f10_i1806_i1807000202_9 N x1 b700 b701 l7 v28 k4 n v8, fun (_, v8) m0 => [.rs 1807090007 m0, .ptr 102 0, .ptr 202 0, .ptr 703 0, .ptr 702 0, .dat (iN v28), .dat (iN v8), .dat (iN (List.length l7 : Int)), .dat (iN v28)], fun (_, _) _ => [.box [.dat (sl_sl_iN x1)], .box [.dat (iN (List.length x1 : Int))], .mp (encM Spot.d bN b700), .mp (encM Spot.d bN b701), .box [.mp 700], .box [.mp 701], .row 3 1 (List.map iN l7)], fun (_, _) => List.length l7, fun _ => rfl, fun _ => rfl⟩
theorem Ef10_i1806_i1807000202_9 {N x1 b700 b701 l7 v28 k4 n v8} : (Lf10_i1806_i1807000202_9 N x1 b700 b701 l7 v28 k4).E (n, v8) = f10_i1806_i1807000202_9 N x1 b700 b701 l7 v28 k4 n v8 := rfl
def f10_i1806_i1807000202_6b (r6 : Int → Option (Bool)) (N : Nat) (x1 : List (List Int)) (b700 : List (Spot × Bool)) (b701 : List (Spot × Bool)) (l7 : List Int) (k2 : Option (Bool)) (v28 : Int) : Option (Bool) :=
 bif decide (v28 < (List.length l7 : Int)) then (joinK (f10_i1806_i1807000202_c26 x1 b700 b701 l7 v28 r6) fun k3 =>
 joinK (f10_i1806_i1807000202_c20 N x1 b700 b701 l7 v28 k3) fun k4 =>
 f10_i1806_i1807000202_9 N x1 b700 b701 l7 v28 k4 N (0 : Int))
 else k2
def f10_i1806_i1807000202_6 (N : Nat) (x1 : List (List Int)) (b700 : List (Spot × Bool)) (b701 : List (Spot × Bool)) (l7 : List Int) (k2 : Option (Bool)) : Nat → Int → Option (Bool)
  | 0, _ => none
  | n + 1, v28 => f10_i1806_i1807000202_6b (f10_i1806_i1807000202_6 N x1 b700 b701 l7 k2 n) N x1 b700 b701 l7 k2 v28
def Lf10_i1806_i1807000202_6 (N : Nat) (x1 : List (List Int)) (b700 : List (Spot × Bool)) (b701 : List (Spot × Bool)) (l7 : List Int) (k2 : Option (Bool)) : Lp (Nat × Int) (Nat) (Bool) := ⟨⟨[0, 1, 2, 3, 4, 27, 28], [102, 202, 700, 701, 702, 703, 1807090007], [], []⟩, fun (_, v28) => [.rs 1807090007 (List.length l7), .ptr 102 0, .ptr 202 0, .ptr 703 0, .ptr 702 0, .dat (iN (List.length l7 : Int)), .dat (iN v28)], fun (_, _) => [.box [.dat (sl_sl_iN x1)], .box [.dat (iN (List.length x1 : Int))], .mp (encM Spot.d bN b700), .mp (encM Spot.d bN b701), .box [.mp 700], .box [.mp 701], .row 3 1 (List.map iN l7)], fun (n, v28) => f10_i1806_i1807000202_6 N x1 b700 b701 l7 k2 n v28, fun (_, v28) m0 => [.rs 1807090007 m0, .ptr 102 0, .ptr 202 0, .ptr 703 0, .ptr 702 0, .dat (iN (List.length l7 : Int)), .dat (iN v28)], fun (_, _) _ => [.box [.dat (sl_sl_iN x1)], .box [.dat (iN (List.length x1 : Int))], .mp (encM Spot.d bN b700), .mp (encM Spot.d bN b701), .box [.mp 700], .box [.mp 701], .row 3 1 (List.map iN l7)], fun (_, _) => List.length l7, fun _ => rfl, fun _ => rfl⟩
theorem Ef10_i1806_i1807000202_6 {N x1 b700 b701 l7 k2 n v28} : (Lf10_i1806_i1807000202_6 N x1 b700 b701 l7 k2).E (n, v28) = f10_i1806_i1807000202_6 N x1 b700 b701 l7 k2 n v28 := rfl
def f10_i1806_2b (r2 : (List Int) → Option (Bool)) (a1 : Int) (N : Nat) (x1 : List (List Int)) (b700 : List (Spot × Bool)) (b701 : List (Spot × Bool)) (l7 : List Int) : Option (Bool) :=
 joinK (f10_i1806_c4 a1 N x1 b700 b701 l7 r2) fun k1 =>
 (f27 N x1 l7).bind fun x12 =>
 (f40 N x1 l7).bind fun x13 =>
 bif !((decide (x12 = (0 : Int))) == (decide (x13 = (0 : Int)))) then (some (false))
 else ((f40 N x1 l7).bind fun x14 =>
 bif decide (¬ x14 = (0 : Int)) then k1
 else (joinK (f10_i1806_i1807000202_c27 x1 b700 b701 l7 k1) fun k2 =>
 f10_i1806_i1807000202_6 N x1 b700 b701 l7 k2 N (0 : Int)))
def f10_i1806_2 (a1 : Int) (N : Nat) (x1 : List (List Int)) (b700 : List (Spot × Bool)) (b701 : List (Spot × Bool)) : Nat → (List Int) → Option (Bool)
  | 0, _ => none
  | n + 1, l7 => f10_i1806_2b (f10_i1806_2 a1 N x1 b700 b701 n) a1 N x1 b700 b701 l7
def Lf10_i1806_2 (a1 : Int) (N : Nat) (x1 : List (List Int)) (b700 : List (Spot × Bool)) (b701 : List (Spot × Bool)) : Lp (Nat × (List Int)) (Nat) (Bool) := ⟨⟨[0, 1, 2, 7], [102, 202, 700, 701, 702, 703, 1807090007], [(.slot 7, 1807090007, 3, 1)], []⟩, fun (_, l7) => [.dat (iN (List.length x1 : Int)), .dat (iN (W ((2 : Int) + (Int.tmod a1 (2 : Int))))), .fn 52 [] [.ptr 102 0, .ptr 202 0, .ptr 703 0, .ptr 702 0], .rs 1807090007 (List.length l7)], fun (_, l7) => [.box [.dat (sl_sl_iN x1)], .box [.dat (iN (List.length x1 : Int))], .mp (encM Spot.d bN b700), .mp (encM Spot.d bN b701), .box [.mp 700], .box [.mp 701], .row 3 1 (List.map iN l7)], fun (n, l7) => f10_i1806_2 a1 N x1 b700 b701 n l7, fun (_, _) m0 => [.dat (iN (List.length x1 : Int)), .dat (iN (W ((2 : Int) + (Int.tmod a1 (2 : Int))))), .fn 52 [] [.ptr 102 0, .ptr 202 0, .ptr 703 0, .ptr 702 0], .rs 1807090007 m0], fun (_, l7) _ => [.box [.dat (sl_sl_iN x1)], .box [.dat (iN (List.length x1 : Int))], .mp (encM Spot.d bN b700), .mp (encM Spot.d bN b701), .box [.mp 700], .box [.mp 701], .row 3 1 (List.map iN l7)], fun (_, l7) => List.length l7, fun _ => rfl, fun _ => rfl⟩
theorem Ef10_i1806_2 {a1 N x1 b700 b701 n l7} : (Lf10_i1806_2 a1 N x1 b700 b701).E (n, l7) = f10_i1806_2 a1 N x1 b700 b701 n l7 := rfl
def f10_c18 (a1 : Int) (N : Nat) (x1 : List (List Int)) (b700 : List (Spot × Bool)) (b701 : List (Spot × Bool)) : Option (Bool) :=
 (mkS 8 (0 : Int) (W ((2 : Int) + (Int.tmod a1 (2 : Int)))) (W ((2 : Int) + (Int.tmod a1 (2 : Int))))).bind fun x4 =>
 f10_i1806_2 a1 N x1 b700 b701 N x4
def Lf10_c18 (a1 : Int) (N : Nat) (x1 : List (List Int)) (b700 : List (Spot × Bool)) : Lp ((List (Spot × Bool))) Unit (Bool) := lp0 ⟨[1, 5, 6, 11, 12], [102, 202, 700, 701, 702, 703], [], []⟩ (fun _ => [.dat (u8N a1), .ptr 102 0, .ptr 202 0, .ptr 702 0, .ptr 703 0]) (fun b701 => [.box [.dat (sl_sl_iN x1)], .box [.dat (iN (List.length x1 : Int))], .mp (encM Spot.d bN b700), .mp (encM Spot.d bN b701), .box [.mp 700], .box [.mp 701]]) (fun b701 => f10_c18 a1 N x1 b700 b701)
theorem Ef10_c18 {a1 N x1 b700 b701} : (Lf10_c18 a1 N x1 b700).E b701 = f10_c18 a1 N x1 b700 b701 := rfl
def f10_14b (r14 : Int → (List (Spot × Bool)) → Option (Bool)) (a1 : Int) (x1 : List (List Int)) (x3 : (List Spot) × Int) (b700 : List (Spot × Bool)) (k5 : (List (Spot × Bool)) → Option (Bool)) (v50 : Int) (b701 : List (Spot × Bool)) : Option (Bool) :=
 bif decide (v50 < (List.length x3.1 : Int)) then ((ix x3.1 v50).bind fun x48 =>
 (some (setK x48 true b701)).bind fun x49 =>
 r14 (W (v50 + (1 : Int))) x49)
 else (k5 b701)
def f10_14 (a1 : Int) (x1 : List (List Int)) (x3 : (List Spot) × Int) (b700 : List (Spot × Bool)) (k5 : (List (Spot × Bool)) → Option (Bool)) : Nat → Int → (List (Spot × Bool)) → Option (Bool)
  | 0, _, _ => none
  | n + 1, v50, b701 => f10_14b (f10_14 a1 x1 x3 b700 k5 n) a1 x1 x3 b700 k5 v50 b701
def Lf10_14 (a1 : Int) (x1 : List (List Int)) (x3 : (List Spot) × Int) (b700 : List (Spot × Bool)) (k5 : (List (Spot × Bool)) → Option (Bool)) : Lp (Nat × Int × (List (Spot × Bool))) Unit (Bool) := lp0 ⟨[1, 5, 6, 11, 12, 48, 49, 50], [102, 202, 700, 701, 702, 703], [], []⟩ (fun (_, v50, _) => [.dat (u8N a1), .ptr 102 0, .ptr 202 0, .ptr 702 0, .ptr 703 0, .dat (sl_Spot x3.1), .dat (iN (List.length x3.1 : Int)), .dat (iN v50)]) (fun (_, _, b701) => [.box [.dat (sl_sl_iN x1)], .box [.dat (iN (List.length x1 : Int))], .mp (encM Spot.d bN b700), .mp (encM Spot.d bN b701), .box [.mp 700], .box [.mp 701]]) (fun (n, v50, b701) => f10_14 a1 x1 x3 b700 k5 n v50 b701)
theorem Ef10_14 {a1 x1 x3 b700 k5 n v50 b701} : (Lf10_14 a1 x1 x3 b700 k5).E (n, v50, b701) = f10_14 a1 x1 x3 b700 k5 n v50 b701 := rfl
def f10_c13 (a1 : Int) (N : Nat) (x1 : List (List Int)) (x3 : (List Spot) × Int) (b700 : List (Spot × Bool)) : Option (Bool) :=
 joinK (f10_c18 a1 N x1 b700) fun k5 =>
 f10_14 a1 x1 x3 b700 k5 N (0 : Int) []
def Lf10_c13 (a1 : Int) (N : Nat) (x1 : List (List Int)) (x3 : (List Spot) × Int) : Lp ((List (Spot × Bool))) Unit (Bool) := lp0 ⟨[1, 5, 6, 9, 11, 12], [102, 202, 700, 701, 702, 703], [], []⟩ (fun _ => [.dat (u8N a1), .ptr 102 0, .ptr 202 0, .dat (sl_Spot x3.1), .ptr 702 0, .ptr 703 0]) (fun b700 => [.box [.dat (sl_sl_iN x1)], .box [.dat (iN (List.length x1 : Int))], .mp (encM Spot.d bN b700), .mp (encM Spot.d bN []), .box [.mp 700], .box [.mp 701]]) (fun b700 => f10_c13 a1 N x1 x3 b700)
theorem Ef10_c13 {a1 N x1 x3 b700} : (Lf10_c13 a1 N x1 x3).E b700 = f10_c13 a1 N x1 x3 b700 := rfl
def f10_9b (r9 : Int → (List (Spot × Bool)) → Option (Bool)) (a1 : Int) (x1 : List (List Int)) (x2 : (List Spot) × Int) (x3 : (List Spot) × Int) (k6 : (List (Spot × Bool)) → Option (Bool)) (v41 : Int) (b700 : List (Spot × Bool)) : Option (Bool) :=
 bif decide (v41 < (List.length x2.1 : Int)) then ((ix x2.1 v41).bind fun x50 =>
 (some (setK x50 true b700)).bind fun x51 =>
 r9 (W (v41 + (1 : Int))) x51)
 else (k6 b700)
def f10_9 (a1 : Int) (x1 : List (List Int)) (x2 : (List Spot) × Int) (x3 : (List Spot) × Int) (k6 : (List (Spot × Bool)) → Option (Bool)) : Nat → Int → (List (Spot × Bool)) → Option (Bool)
  | 0, _, _ => none
  | n + 1, v41, b700 => f10_9b (f10_9 a1 x1 x2 x3 k6 n) a1 x1 x2 x3 k6 v41 b700
def Lf10_9 (a1 : Int) (x1 : List (List Int)) (x2 : (List Spot) × Int) (x3 : (List Spot) × Int) (k6 : (List (Spot × Bool)) → Option (Bool)) : Lp (Nat × Int × (List (Spot × Bool))) Unit (Bool) := lp0 ⟨[1, 5, 6, 9, 11, 12, 39, 40, 41], [102, 202, 700, 701, 702, 703], [], []⟩ (fun (_, v41, _) => [.dat (u8N a1), .ptr 102 0, .ptr 202 0, .dat (sl_Spot x3.1), .ptr 702 0, .ptr 703 0, .dat (sl_Spot x2.1), .dat (iN (List.length x2.1 : Int)), .dat (iN v41)]) (fun (_, _, b700) => [.box [.dat (sl_sl_iN x1)], .box [.dat (iN (List.length x1 : Int))], .mp (encM Spot.d bN b700), .mp (encM Spot.d bN []), .box [.mp 700], .box [.mp 701]]) (fun (n, v41, b700) => f10_9 a1 x1 x2 x3 k6 n v41 b700)
theorem Ef10_9 {a1 x1 x2 x3 k6 n v41 b700} : (Lf10_9 a1 x1 x2 x3 k6).E (n, v41, b700) = f10_9 a1 x1 x2 x3 k6 n v41 b700 := rfl
def f10 (N : Nat) (a0 : Plate) (a1 : Int) : Option (Bool) :=
 (f39 N a0).bind fun x1 =>
 (f43 N x1).bind fun x2 =>
 (f45 N x1).bind fun x3 =>
 bif decide (¬ x2.2 = (0 : Int)) then (some (false))
 else (bif decide (¬ x3.2 = (0 : Int)) then (some (false))
 else (joinK (f10_c13 a1 N x1 x3) fun k6 =>
 f10_9 a1 x1 x2 x3 k6 N (0 : Int) []))
def G10 (ds : List D) (d : D) : Prop := ∃ (N : Nat) (a0 : Plate) (a1 : Int) (r : Bool), ds = [Plate.d a0, u8N a1] ∧ f10 N a0 a1 = some r ∧ d = bN r
set_option maxRecDepth 20000 in
set_option maxHeartbeats 4000000 in
theorem P10 : PureOK Try.prog 10 G10 := by
  refine pure_of_vc (c := mkCtx tyTree [(51, false, inlPg (mkCtx tyTree [(52, false, inlPg (mkCtx tyTree [(40, true, lendPg [[1], [1]] G40), (27, true, lendPg [[1], [1]] G27)]) Try.f52)]) Try.f51), (45, true, purePg [[1]] G45), (43, true, purePg [[1]] G43), (39, true, purePg [[0, 0, 0, 0, 0, 0, 0, 0, 0, 0, 0, 0, 0, 0, 0, 0, 0]] G39), (15, true, lendPg [] G15)]) rfl tyOK (ctx_eff (callable Try.func51 rfl rfl) (CallOK.inl rfl tyOK (ctx_eff (callable Try.func52 rfl rfl) (CallOK.inl rfl tyOK (ctx_lend (callable Try.func40 rfl rfl) P40 (ctx_lend (callable Try.func27 rfl rfl) P27 (ctx_nil))) Try.func52 (by kernel_rfl)) (ctx_nil)) Try.func51 (by kernel_rfl)) (ctx_cons (callable Try.func45 rfl rfl) P45 (ctx_cons (callable Try.func43 rfl rfl) P43 (ctx_cons (callable Try.func39 rfl rfl) P39 (ctx_lend (callable Try.func15 rfl rfl) P15 (ctx_nil)))))) [[0]] 2 Try.func10 rfl rfl (by decide) (by kernel_rfl) ?_
  rintro ds d ⟨N, a0, a1, r, rfl, hF, rfl⟩ hok
  clear hok
  refine ⟨rfl, ?_⟩
  show vc _ _ _ _ ⟨[(0, .dat (Plate.d a0)), (1, .dat (u8N a1))], []⟩ _
  unfold f10 at hF
  repeat' (first
    | ((with_reducible first | refine q0 _ _ ?_ | refine q1 _ _ _ _ ?_ | refine q2 _ _ _ ?_); clear Q q0 q1 q2)
    | ((with_reducible first | refine seq_op ?hx (fun Q q0 q1 q2 => ?_) | refine draw_op ?hx (fun Q q0 q1 q2 => ?_) | refine seq_op0 ?hx (fun Q q0 q1 q2 => ?_) | refine draw_op0 ?hx (fun Q q0 q1 q2 => ?_)); (case hx => exact rfl); conv => whnf)
    | ((with_reducible first | refine seq_off ?hx ?_ | refine seq_off0 ?hx ?_ | refine draw_off ?hx ?_ | refine draw_off0 ?hx ?_ | refine k_blk_out ?hx ?_ | refine vc_condT ?hx ?_); (case hx => exact rfl))
    | ((with_reducible refine seq_id ?_); (first | ((first | refine seq_opK rfl ?hy (fun Q q0 q1 q2 => ?_) | refine seq_opK0 rfl ?hy (fun Q q0 q1 q2 => ?_)); (case hy => first | assumption | exact notT (by assumption) | exact rfl); conv => whnf) | ((first | refine seq_offK rfl ?hy ?_ | refine seq_offK0 rfl ?hy ?_); (case hy => first | assumption | exact notF (by assumption) | exact rfl)) | (revert hF; (with_reducible first | refine seq_opF ?hx ?_ ?_ | refine seq_opF0 ?hx ?_ ?_); (case hx => exact rfl); (intro hc hF Q q0 q1 q2; conv => whnf); rotate_left; (intro hc hF); rotate_right) | (revert hF; (with_reducible first | refine seq_opN ?hx ?_ ?_ | refine seq_opN0 ?hx ?_ ?_); (case hx => exact rfl); (intro hc hF); rotate_left; (intro hc hF Q q0 q1 q2; conv => whnf); rotate_right)))
    | ((with_reducible refine draw_id ?_); (first | ((first | refine draw_opK rfl ?hy (fun Q q0 q1 q2 => ?_) | refine draw_opK0 rfl ?hy (fun Q q0 q1 q2 => ?_)); (case hy => first | assumption | exact notT (by assumption) | exact rfl); conv => whnf) | ((first | refine draw_offK rfl ?hy ?_ | refine draw_offK0 rfl ?hy ?_); (case hy => first | assumption | exact notF (by assumption) | exact rfl)) | (revert hF; (with_reducible first | refine draw_opF ?hx ?_ ?_ | refine draw_opF0 ?hx ?_ ?_); (case hx => exact rfl); (intro hc hF Q q0 q1 q2; conv => whnf); rotate_left; (intro hc hF); rotate_right) | (revert hF; (with_reducible first | refine draw_opN ?hx ?_ ?_ | refine draw_opN0 ?hx ?_ ?_); (case hx => exact rfl); (intro hc hF); rotate_left; (intro hc hF Q q0 q1 q2; conv => whnf); rotate_right)))
    | ((with_reducible refine cond_id ?_); (first | ((refine condKT rfl ?hy ?_); (case hy => first | assumption | exact notT (by assumption) | exact rfl)) | ((refine condKF rfl ?hy ?_); (case hy => first | assumption | exact notF (by assumption) | exact rfl)) | (revert hF; (with_reducible refine condF ?hx ?_ ?_); (case hx => exact rfl); all_goals (intro hc hF))))
    | ((with_reducible refine seq_nil ?_); (first | ((with_reducible refine hR _ ?_); clear R hR) | ((with_reducible refine hL _ ?_); clear L hL)))
    | ((with_reducible refine draw_nil ?_); (with_reducible refine hR _ _ ?hx ?_); (case hx => kernel_rfl); (first | clear R hR | clear hR))
    | ((with_reducible first | refine int_step ?_ | refine len_step ?_ | refine idx2 (by assumption) ?_ | refine idx3 (by assumption) ?_); conv => whnf)
    | (with_reducible first | refine vc_block ?_ | refine vc_skip ?_ | refine vc_ret ?_ | refine vc_exit ?_ | refine vc_region (fun R hR => ?_) | refine k_seq_ret ?_ | refine k_seq_exit ?_ | refine k_blk ?_ | refine k_blk_ret ?_ | refine k_blk_here ?_ | refine k_loop_ret ?_ | refine k_loop_exit ?_)
    | ((with_reducible refine vc_seqN [1807000000008, 1807000000004, 1807000203000000027, 1807000203000000026, 1807000203000000020, 18, 13] ?hx ?_); (case hx => exact rfl))
    | ((with_reducible refine vc_draw ?hx (fun R hR => ?_)); (case hx => exact rfl))
    | (revert hF; (refine Lp.cut6 Lf10_i1806_c8 f10_i1806_c8 1807000000008 rfl rfl ?_ ?_); (intro hF); rotate_left; (rintro ⟨l7', i8'⟩ hF; dsimp only [Lf10_i1806_c8] at hF; unfold f10_i1806_c8 at hF); rotate_right)
    | exact Lp.head Ef10_i1806_c8 hF _ ⟨_, rfl, rfl, rfl, rfl⟩ (by first | exact rfl | ((try dsimp only [Lf10_i1806_c8]); first | assumption | omega | (simp only [List.length_set]; done)))
    | (revert hF; (refine Lp.loop Ef10_i1806_5 _ rfl ⟨_, rfl, rfl, rfl, rfl⟩ (by first | exact rfl | ((try dsimp only [Lf10_i1806_5]); first | assumption | omega | (simp only [List.length_set]; done))) (fun _ => rfl) ?_); rintro n ⟨l7', i8'⟩ hF; dsimp only [Lf10_i1806_5, f10_i1806_5] at hF; unfold f10_i1806_5b at hF)
    | exact Lp.back Ef10_i1806_5 hF _ ⟨_, rfl, rfl, rfl, rfl⟩ (by first | exact rfl | ((try dsimp only [Lf10_i1806_5]); first | assumption | omega | (simp only [List.length_set]; done)))
    | (revert hF; (refine Lp.cut7 Lf10_i1806_c4 f10_i1806_c4 1807000000004 rfl rfl ?_ ?_); (intro hF); rotate_left; (rintro _ hF; dsimp only [Lf10_i1806_c4] at hF; unfold f10_i1806_c4 at hF); rotate_right)
    | exact Lp.head Ef10_i1806_c4 hF _ ⟨_, rfl, rfl, rfl, rfl⟩ (by first | exact rfl | ((try dsimp only [Lf10_i1806_c4]); first | assumption | omega | (simp only [List.length_set]; done)))
    | (revert hF; (refine Lp.cut5 Lf10_i1806_i1807000202_c27 f10_i1806_i1807000202_c27 1807000203000000027 rfl rfl ?_ ?_); (intro hF); rotate_left; (rintro _ hF; dsimp only [Lf10_i1806_i1807000202_c27] at hF; unfold f10_i1806_i1807000202_c27 at hF); rotate_right)
    | exact Lp.head Ef10_i1806_i1807000202_c27 hF () ⟨_, rfl, rfl, rfl, rfl⟩ rfl
    | (revert hF; (refine Lp.cut6 Lf10_i1806_i1807000202_c26 f10_i1806_i1807000202_c26 1807000203000000026 rfl rfl ?_ ?_); (intro hF); rotate_left; (rintro _ hF; dsimp only [Lf10_i1806_i1807000202_c26] at hF; unfold f10_i1806_i1807000202_c26 at hF); rotate_right)
    | exact Lp.head Ef10_i1806_i1807000202_c26 hF _ ⟨_, rfl, rfl, rfl, rfl⟩ (by first | exact rfl | ((try dsimp only [Lf10_i1806_i1807000202_c26]); first | assumption | omega | (simp only [List.length_set]; done)))
    | (revert hF; (refine Lp.cut7 Lf10_i1806_i1807000202_c20 f10_i1806_i1807000202_c20 1807000203000000020 rfl rfl ?_ ?_); (intro hF); rotate_left; (rintro _ hF; dsimp only [Lf10_i1806_i1807000202_c20] at hF; unfold f10_i1806_i1807000202_c20 at hF); rotate_right)
    | exact Lp.head Ef10_i1806_i1807000202_c20 hF _ ⟨_, rfl, rfl, rfl, rfl⟩ (by first | exact rfl | ((try dsimp only [Lf10_i1806_i1807000202_c20]); first | assumption | omega | (simp only [List.length_set]; done)))
    | (revert hF; (refine Lp.loop Ef10_i1806_i1807000202_9 _ rfl ⟨_, rfl, rfl, rfl, rfl⟩ (by first | exact rfl | ((try dsimp only [Lf10_i1806_i1807000202_9]); first | assumption | omega | (simp only [List.length_set]; done))) (fun _ => rfl) ?_); rintro n v8 hF; dsimp only [Lf10_i1806_i1807000202_9, f10_i1806_i1807000202_9] at hF; unfold f10_i1806_i1807000202_9b at hF)
    | exact Lp.back Ef10_i1806_i1807000202_9 hF _ ⟨_, rfl, rfl, rfl, rfl⟩ (by first | exact rfl | ((try dsimp only [Lf10_i1806_i1807000202_9]); first | assumption | omega | (simp only [List.length_set]; done)))
    | (revert hF; (refine Lp.loop Ef10_i1806_i1807000202_6 _ rfl ⟨_, rfl, rfl, rfl, rfl⟩ (by first | exact rfl | ((try dsimp only [Lf10_i1806_i1807000202_6]); first | assumption | omega | (simp only [List.length_set]; done))) (fun _ => rfl) ?_); rintro n v28 hF; dsimp only [Lf10_i1806_i1807000202_6, f10_i1806_i1807000202_6] at hF; unfold f10_i1806_i1807000202_6b at hF)
    | exact Lp.back Ef10_i1806_i1807000202_6 hF _ ⟨_, rfl, rfl, rfl, rfl⟩ (by first | exact rfl | ((try dsimp only [Lf10_i1806_i1807000202_6]); first | assumption | omega | (simp only [List.length_set]; done)))
    | (revert hF; (refine Lp.loop Ef10_i1806_2 _ rfl ⟨_, rfl, rfl, rfl, rfl⟩ (by first | exact rfl | ((try dsimp only [Lf10_i1806_2]); first | assumption | omega | (simp only [List.length_set]; done))) (fun _ => rfl) ?_); rintro n l7 hF; dsimp only [Lf10_i1806_2, f10_i1806_2] at hF; unfold f10_i1806_2b at hF)
    | exact Lp.back Ef10_i1806_2 hF _ ⟨_, rfl, rfl, rfl, rfl⟩ (by first | exact rfl | ((try dsimp only [Lf10_i1806_2]); first | assumption | omega | (simp only [List.length_set]; done)))
    | (revert hF; (refine Lp.cut4 Lf10_c18 f10_c18 18 rfl rfl ?_ ?_); (intro hF); rotate_left; (rintro b701 hF; dsimp only [Lf10_c18] at hF; unfold f10_c18 at hF); rotate_right)
    | exact Lp.head Ef10_c18 hF () ⟨_, rfl, rfl, rfl, rfl⟩ rfl
    | (revert hF; (refine Lp.loop Ef10_14 () rfl ⟨_, rfl, rfl, rfl, rfl⟩ rfl (fun _ => rfl) ?_); rintro n ⟨v50, b701⟩ hF; dsimp only [Lf10_14, f10_14] at hF; unfold f10_14b at hF)
    | exact Lp.back Ef10_14 hF () ⟨_, rfl, rfl, rfl, rfl⟩ rfl
    | (revert hF; (refine Lp.cut4 Lf10_c13 f10_c13 13 rfl rfl ?_ ?_); (intro hF); rotate_left; (rintro b700 hF; dsimp only [Lf10_c13] at hF; unfold f10_c13 at hF); rotate_right)
    | exact Lp.head Ef10_c13 hF () ⟨_, rfl, rfl, rfl, rfl⟩ rfl
    | (revert hF; (refine Lp.loop Ef10_9 () rfl ⟨_, rfl, rfl, rfl, rfl⟩ rfl (fun _ => rfl) ?_); rintro n ⟨v41, b700⟩ hF; dsimp only [Lf10_9, f10_9] at hF; unfold f10_9b at hF)
    | exact Lp.back Ef10_9 hF () ⟨_, rfl, rfl, rfl, rfl⟩ rfl
    | (revert hF; (with_reducible refine G15.lend ?hx ?_); (case hx => exact rfl); intro v hF; conv => whnf)
    | (revert hF; (with_reducible refine G27.lend ?hx ?_); (case hx => exact rfl); intro v hF; conv => whnf)
    | (revert hF; (with_reducible refine G39.step ?hx ?_); (case hx => exact rfl); intro v hF; conv => whnf)
    | (revert hF; (with_reducible refine G40.lend ?hx ?_); (case hx => exact rfl); intro v hF; conv => whnf)
    | (revert hF; (with_reducible refine G43.step ?hx ?_); (case hx => exact rfl); intro v hF; conv => whnf)
    | (revert hF; (with_reducible refine G45.step ?hx ?_); (case hx => exact rfl); intro v hF; conv => whnf)
    | (revert hF; (refine mkS_row (d := iN) ?hz ?_); (case hz => exact rfl); intro x hF; conv => whnf)
    | (revert hF; (refine look_step (eK := Spot.d) (eV := bN) Spot.d_inj ?hk ?hz ?hd ?he ?_); (case hk => exact fun _ => rfl); (case hz => exact rfl); (case hd => exact rfl); (case he => exact rfl); intro x hF; conv => whnf)
    | (revert hF; (refine put_step (eK := Spot.d) (eV := bN) Spot.d_inj ?hk ?hv ?hd ?he ?_); (case hk => exact fun _ => rfl); (case hv => exact rfl); (case hd => exact rfl); (case he => exact rfl); intro x hF; conv => whnf)
    | (revert hF; (with_reducible refine idx1 ?hn ?_); (case hn => first | exact rfl | exact (List.length_map _) | assumption | omega | simp); intro x hx hF; conv => whnf)
    | ((with_reducible have hG := vw_fact hF); clear hF; (refine Or.inl (Or.inr ?_)); (conv => whnf); (refine vw_step hG ?hn (fun q hq hF => ?_); (case hn => first | exact rfl | assumption | omega)); clear hG; conv => whnf)
    | ((with_reducible have hG := app_fact hF); clear hF; (first | ((refine app_row hG ?hn ?hs (fun q hF => ?_)); (case hn => first | exact rfl | assumption | omega); (case hs => exact rfl)) | ((refine app_nil (d := iN) hG ?hs (fun q hF => ?_)); (case hs => exact rfl)) | ((refine app_gen (d := iN) hG ?ho ?hn ?hs (fun q hF => ?_)); (case ho => exact rfl); (case hn => exact rfl); (case hs => exact rfl))); clear hG; conv => whnf)
    | ((refine row_all ?hn ?_); (case hn => first | exact rfl | (simp; done) | (simp; omega)); conv => whnf)
    | ((refine row_pre ?hn ?_); (case hn => first | assumption | (simp only [*]; done) | omega); conv => whnf)
    | ((with_reducible refine le_step ?hn ?_); (case hn => first | exact rfl | assumption | omega); conv => whnf)
    | ((with_reducible have hG := setx_fact hF); clear hF; (refine setx_step hG ?hs (fun q hl hF => ?_)); (case hs => exact rfl); clear hG; conv => whnf)
    | ((refine ⟨?hx, ?_⟩); (case hx => exact ⟨rfl, Nat.le_of_ble_eq_true rfl, rfl⟩); conv => whnf)
    | ((with_reducible refine ex_step ?_); conv => whnf)
    | ((with_reducible refine both_T ?hx ?_); (case hx => first | exact rfl | assumption | exact notT (by assumption)); conv => whnf)
    | ((with_reducible refine both_F ?hx ?_); (case hx => first | exact rfl | assumption | exact notF (by assumption)); conv => whnf)
    | (revert hF; (with_reducible refine ite_step ?_ ?_) <;> (intro hc hF; conv => whnf))
    | ((with_reducible refine vc_condF ?hx ?_); (case hx => exact rfl))
    | (show retD _ _ _ _ _ _; conv => whnf)
    | ((refine inl_step ?ha ?hb ?hc rfl ?_); (case ha => exact rfl); (case hb => omega); (case hc => exact Nat.le_of_ble_eq_true rfl))
    | (show Kinl _ _ _ _ _ _ _; conv => whnf)
    | ((with_reducible refine kinl_step ?ha ?hb ?_); (case ha => exact rfl); (case hb => exact rfl); conv => whnf)
    | ((refine ⟨?hx, trivial⟩); (case hx => (cases hF; exact rfl)))
    | ((refine ⟨?hx, ?_⟩); (case hx => decide); conv => whnf)
    | with_reducible refine k_seq ?_
    | (have hF : (none : Option _) = some _ := hF; cases hF))
end
end Go.Vc
namespace Go.Vc
set_option linter.unusedVariables false
set_option linter.unnecessarySimpa false
set_option linter.unusedSimpArgs false
section
variable {α β σ : Type}
theorem iffD {α : Type} {p q : Prop} {dp : Decidable p} {dq : Decidable q} {a b : α} (h : p ↔ q) : @ite α p dp a b = @ite α q dq a b := by
  by_cases hp : p
  · rw [if_pos hp, if_pos (h.1 hp)]
  · rw [if_neg hp, if_neg fun hq => hp (h.2 hq)]
open Classical in
theorem loop_ex {F : Nat → Int → Option β} {k0 e : Option β} {p : Nat → Prop} (len : Nat)
    (hs : ∀ n i, i < len → F (n + 1) (i : Int) = if p i then e else F n ((i + 1 : Nat) : Int)) (he : ∀ n, F (n + 1) (len : Int) = k0) :
    ∀ n i, i ≤ len → len - i < n → F n (i : Int) = if (∃ j, i ≤ j ∧ j < len ∧ p j) then e else k0 := by
  intro n
  induction n with
  | zero => intro i _ h; omega
  | succ n ih =>
    intro i hi hn
    by_cases h : i = len
    · subst h
      rw [he, if_neg]
      rintro ⟨j, h1, h2, _⟩; omega
    · rw [hs n i (by omega)]
      by_cases hp : p i
      · rw [if_pos hp, if_pos ⟨i, Nat.le_refl _, by omega, hp⟩]
      · rw [if_neg hp, ih (i + 1) (by omega) (by omega)]
        by_cases hx : ∃ j, i + 1 ≤ j ∧ j < len ∧ p j
        · obtain ⟨j, h1, h2, h3⟩ := hx
          rw [if_pos ⟨j, h1, h2, h3⟩, if_pos ⟨j, by omega, h2, h3⟩]
        · rw [if_neg hx, if_neg]
          rintro ⟨j, h1, h2, h3⟩
          by_cases hj : j = i
          · subst hj; exact hp h3
          · exact hx ⟨j, by omega, h2, h3⟩
open Classical in
theorem loop_ex0 {F : Nat → Int → Option β} {k0 e : Option β} {p : Nat → Prop} (len : Nat)
    (hs : ∀ n i, i < len → F (n + 1) (i : Int) = if p i then e else F n ((i + 1 : Nat) : Int)) (he : ∀ n, F (n + 1) (len : Int) = k0) {n : Nat} (hn : len < n) :
    F n 0 = if (∃ j, j < len ∧ p j) then e else k0 := by
  have := loop_ex len hs he n 0 (by omega) (by omega)
  rw [show ((0 : Nat) : Int) = 0 from rfl] at this
  rw [this]
  by_cases h : ∃ j, j < len ∧ p j
  · obtain ⟨j, h1, h2⟩ := h
    rw [if_pos ⟨j, by omega, h1, h2⟩, if_pos ⟨j, h1, h2⟩]
  · rw [if_neg h, if_neg]
    rintro ⟨j, _, h1, h2⟩; exact h ⟨j, h1, h2⟩
theorem loop_inv {F : Nat → σ → Int → Option β} {k : σ → Option β} (g : σ → Nat → σ) (Inv : Nat → σ → Prop) (len : Nat)
    (hs : ∀ n s i, i < len → Inv i s → F (n + 1) s (i : Int) = F n (g s i) ((i + 1 : Nat) : Int)) (hi : ∀ s i, i < len → Inv i s → Inv (i + 1) (g s i)) (he : ∀ n s, F (n + 1) s (len : Int) = k s) :
    ∀ n i s, i ≤ len → len - i < n → Inv i s → F n s (i : Int) = k ((List.range' i (len - i)).foldl g s) ∧ Inv len ((List.range' i (len - i)).foldl g s) := by
  intro n
  induction n with
  | zero => intro i s _ h; omega
  | succ n ih =>
    intro i s hl hn h0
    by_cases h : i = len
    · subst h
      rw [he, Nat.sub_self]; exact ⟨rfl, h0⟩
    · rw [hs n s i (by omega) h0]
      obtain ⟨h1, h2⟩ := ih (i + 1) (g s i) (by omega) (by omega) (hi s i (by omega) h0)
      rw [show len - i = (len - (i + 1)) + 1 by omega, List.range'_succ]
      exact ⟨h1, h2⟩
theorem loop_inv0 {F : Nat → σ → Int → Option β} {k : σ → Option β} (g : σ → Nat → σ) (Inv : Nat → σ → Prop) (len : Nat)
    (hs : ∀ n s i, i < len → Inv i s → F (n + 1) s (i : Int) = F n (g s i) ((i + 1 : Nat) : Int)) (hi : ∀ s i, i < len → Inv i s → Inv (i + 1) (g s i)) (he : ∀ n s, F (n + 1) s (len : Int) = k s)
    {n : Nat} {s : σ} (hn : len < n) (h0 : Inv 0 s) : F n s 0 = k ((List.range len).foldl g s) ∧ Inv len ((List.range len).foldl g s) := by
  have := loop_inv g Inv len hs hi he n 0 s (by omega) (by omega) h0
  rw [List.range_eq_range']
  simpa using this
theorem loop_find {F : Nat → Int → Option β} {k : Nat → Option β} {p : Nat → Prop} (m : Nat) (hm : p m)
    (hs : ∀ n i, i ≤ m → ¬ p i → F (n + 1) (i : Int) = F n ((i + 1 : Nat) : Int)) (he : ∀ n i, i ≤ m → p i → F (n + 1) (i : Int) = k i) :
    ∀ n i, i ≤ m → m - i < n → ∃ j, i ≤ j ∧ j ≤ m ∧ p j ∧ (∀ q, i ≤ q → q < j → ¬ p q) ∧ F n (i : Int) = k j := by
  intro n
  induction n with
  | zero => intro i _ h; omega
  | succ n ih =>
    intro i hi hn
    by_cases h : p i
    · exact ⟨i, Nat.le_refl _, hi, h, fun q h1 h2 => by omega, he n i hi h⟩
    · have : i ≠ m := fun hh => h (hh ▸ hm)
      obtain ⟨j, h1, h2, h3, h4, h5⟩ := ih (i + 1) (by omega) (by omega)
      refine ⟨j, by omega, h2, h3, fun q h6 h7 => ?_, (hs n i hi h).trans h5⟩
      by_cases hq : q = i
      · subst hq; exact h
      · exact h4 q (by omega) h7
end
end Go.Vc
namespace Go.Vc
open Go.Proofs
set_option linter.unusedVariables false
set_option linter.unnecessarySimpa false
set_option linter.unusedSimpArgs false
def f57 (N : Nat) (a0 : Int) (a1 : Int) (a2 : Int) : Option (Bool) :=
 bif decide (a1 ≤ a0) then (some (decide (a0 ≤ a2)))
 else (some (false))
end Go.Vc
namespace Go.Vc
open Go.Proofs
set_option linter.unusedVariables false
set_option linter.unnecessarySimpa false
set_option linter.unusedSimpArgs false
def f17_c10 (n4 : Int) : Option (Int × Bool) :=
 some (n4, true)
def f17_5b (r5 : Int → Int → Option (Int × Bool)) (a0 : ByteArray) (k0 : Int → Option (Int × Bool)) (n4 : Int) (i5 : Int) : Option (Int × Bool) :=
 bif decide (i5 < (ByteArray.size a0 : Int)) then ((idxS a0 i5).bind fun x1 =>
 bif decide (x1 < (48 : Int)) then (some ((0 : Int), false))
 else ((idxS a0 i5).bind fun x2 =>
 bif decide ((57 : Int) < x2) then (some ((0 : Int), false))
 else ((idxS a0 i5).bind fun x3 =>
 r5 (W ((W ((10 : Int) * n4)) + (Wk .u8 (x3 - (48 : Int))))) (W (i5 + (1 : Int))))))
 else (k0 n4)
def f17_5 (a0 : ByteArray) (k0 : Int → Option (Int × Bool)) : Nat → Int → Int → Option (Int × Bool)
  | 0, _, _ => none
  | n + 1, n4, i5 => f17_5b (f17_5 a0 k0 n) a0 k0 n4 i5
def f17_c3 (a0 : ByteArray) (N : Nat) : Option (Int × Bool) :=
 joinK f17_c10 fun k0 =>
 f17_5 a0 k0 N (0 : Int) (0 : Int)
def f17 (N : Nat) (a0 : ByteArray) : Option (Int × Bool) :=
 joinK (f17_c3 a0 N) fun k1 =>
 (f57 N (ByteArray.size a0 : Int) (1 : Int) (8 : Int)).bind fun x4 =>
 bif !x4 then (some ((0 : Int), false))
 else ((idxS a0 (0 : Int)).bind fun x5 =>
 bif decide (x5 = (48 : Int)) then (bif decide ((1 : Int) < (ByteArray.size a0 : Int)) then (some ((0 : Int), false))
 else k1)
 else k1)
end Go.Vc
namespace Go.Vc
open Go.Proofs
set_option linter.unusedVariables false
set_option linter.unnecessarySimpa false
set_option linter.unusedSimpArgs false
def f19_c8 : Option (Bool) :=
 some (true)
def f19_4b (r4 : Int → Option (Bool)) (a0 : ByteArray) (k0 : Option (Bool)) (i3 : Int) : Option (Bool) :=
 bif decide (i3 < (ByteArray.size a0 : Int)) then ((idxS a0 i3).bind fun x2 =>
 bif decide (x2 < (97 : Int)) then (some (false))
 else ((idxS a0 i3).bind fun x3 =>
 bif decide ((122 : Int) < x3) then (some (false))
 else (r4 (W (i3 + (1 : Int))))))
 else k0
def f19_4 (a0 : ByteArray) (k0 : Option (Bool)) : Nat → Int → Option (Bool)
  | 0, _ => none
  | n + 1, i3 => f19_4b (f19_4 a0 k0 n) a0 k0 i3
def f19 (N : Nat) (a0 : ByteArray) : Option (Bool) :=
 (f57 N (ByteArray.size a0 : Int) (1 : Int) (9 : Int)).bind fun x1 =>
 bif !x1 then (some (false))
 else (joinK f19_c8 fun k0 =>
 f19_4 a0 k0 N (0 : Int))
end Go.Vc
namespace Go.Vc
open Go.Proofs
set_option linter.unusedVariables false
set_option linter.unnecessarySimpa false
set_option linter.unusedSimpArgs false
def f3 (N : Nat) (a0 : ByteArray) : Option (Bool) :=
 bif decide ((40 : Int) < (ByteArray.size a0 : Int)) then ((f15 N ).bind fun x1 =>
 some (x1))
 else ((f16 N a0).bind fun x2 =>
 (f17 N a0).bind fun x3 =>
 bif decide (x2.1 = x3.1) then (bif (x2.2 == x3.2) then ((f18 N a0).bind fun x4 =>
 (f19 N a0).bind fun x5 =>
 bif (x4 == x5) then ((f15 N ).bind fun x6 =>
 some (x6))
 else (some (false)))
 else (some (false)))
 else (some (false)))
end Go.Vc
namespace Go.Vc
set_option linter.unusedVariables false
set_option linter.unnecessarySimpa false
set_option linter.unusedSimpArgs false
set_option linter.unusedSimpArgs false
theorem f15_any (n : Nat) : f15 (n + 60) = some true := by kernel_rfl
theorem f64_eq {N : Nat} {a b c : Int} : f64 N a b c = some (decide (a ≤ b ∧ b ≤ c)) := by
  unfold f64
  by_cases h : a ≤ b <;> simp [h]
end Go.Vc
namespace Go.Vc
open Go.Proofs
set_option linter.unusedVariables false
set_option linter.unnecessarySimpa false
set_option linter.unusedSimpArgs false
end Go.Vc
namespace Go.Vc
open Go.Proofs
set_option linter.unusedVariables false
set_option linter.unnecessarySimpa false
set_option linter.unusedSimpArgs false
end Go.Vc
namespace Go.Vc
set_option linter.unusedVariables false
set_option linter.unnecessarySimpa false
set_option linter.unusedSimpArgs false
set_option linter.unusedSimpArgs false
open Classical in
def Small (t : List (List Int)) : Prop := t.length ≤ 20 ∧ ∀ r, r ∈ t → r.length ≤ 20
def row (t : List (List Int)) (i : Nat) : List Int := t.getD i []
def en (t : List (List Int)) (i j : Nat) : Int := (row t i).getD j 0
theorem row_get {t : List (List Int)} {i : Nat} (h : i < t.length) : t[i]? = some (row t i) := by
  simp [row, h]
theorem row_mem {t : List (List Int)} {i : Nat} (h : i < t.length) : row t i ∈ t := by
  simp [row, h]
theorem ix_row {t : List (List Int)} {i : Nat} (h : i < t.length) : ix t (i : Int) = some (row t i) := by rw [ix_nat, row_get h]
theorem ix_en {t : List (List Int)} {i j : Nat} (h : j < (row t i).length) : ix (row t i) (j : Int) = some (en t i j) := by
  rw [ix_nat]; simp [en, h]
open Classical in
noncomputable def chkT (t : List (List Int)) : Int :=
  if ¬ (2 ≤ t.length ∧ t.length ≤ 10) then 3
  else if ∃ i, i < t.length ∧ (row t i).length ≠ t.length then 3
  else if ∃ i, i < t.length ∧ ∃ j, j < t.length ∧ ¬ (0 ≤ en t i j ∧ en t i j < t.length) then 4
  else if ∃ i, i < t.length ∧ ∃ j, j < t.length ∧ ∃ k, k < j ∧ (en t i j = en t i k ∨ en t j i = en t k i) then 6
  else 0
theorem W_sub1 {n : Nat} (h : n ≤ 1000000) : W ((n : Int) - (1 : Int)) = (n : Int) - 1 := W_of (by omega) (by omega)
end Go.Vc
namespace Go.Vc
set_option linter.unusedVariables false
set_option linter.unnecessarySimpa false
set_option linter.unusedSimpArgs false
set_option linter.unusedSimpArgs false
theorem take_flat {t : List (List Int)} {i : Nat} (h : i < t.length) : (t.take (i + 1)).flatten = (t.take i).flatten ++ row t i := by
  rw [List.take_add_one, row_get h]; simp
theorem row_le {t : List (List Int)} {m i : Nat} (hr : ∀ r, r ∈ t → r.length ≤ m) (h : i < t.length) : (row t i).length ≤ m := hr _ (row_mem h)
theorem f83_eq {N : Nat} {t : List (List Int)} (hs : Small t) (hN : 30 ≤ N) : f83 N t = some t.flatten := by
  obtain ⟨hs, hr⟩ := hs
  unfold f83
  simp only [joinK]
  obtain ⟨h1, h2⟩ := loop_inv0 (F := f83_3 t (f83_c9 t N)) (k := f83_c9 t N) (fun (s : Int) i => s + ((row t i).length : Int)) (fun i s => 0 ≤ s ∧ s ≤ 20 * i) t.length (by
      intro n s i hi h
      conv => lhs; unfold f83_3 f83_3b
      have := row_le hr hi
      have hw : W (s + ((row t i).length : Int)) = s + ((row t i).length : Int) := W_of (by omega) (by omega)
      simp only [show (i : Int) < (t.length : Int) by omega, decide_true, cond_true, ix_row hi, Option.bind_some, hw, show ¬ s + ((row t i).length : Int) < 0 by omega, decide_false, cond_false]
      rw [W_nat (by omega)]) (by
      intro s i hi h
      have := row_le hr hi
      omega) (by intro n s; (conv => lhs; unfold f83_3 f83_3b); simp) (n := N) (s := 0) (by omega) ⟨by omega, by omega⟩
  rw [h1]
  generalize (List.range t.length).foldl (fun (s : Int) i => s + ((row t i).length : Int)) 0 = z at h2
  have hk : f83_c10 t N [] = some t.flatten := by
    unfold f83_c10
    simp only [joinK]
    obtain ⟨h3, h4⟩ := loop_inv0 (F := f83_11 t f83_c15) (k := f83_c15) (fun (s : List Int) i => s ++ row t i) (fun i s => s = (t.take i).flatten ∧ s.length ≤ 20 * i) t.length (by
      intro n s i hi h
      conv => lhs; unfold f83_11 f83_11b
      have := row_le hr hi
      simp only [show (i : Int) < (t.length : Int) by omega, decide_true, cond_true, ix_row hi, Option.bind_some]
      rw [app_ok (by omega) (by omega)]
      simp only [Option.bind_some]
      rw [W_nat (by omega)]) (by
      intro s i hi h
      have := row_le hr hi
      exact ⟨by rw [h.1, take_flat hi], by simp; omega⟩) (by intro n s; (conv => lhs; unfold f83_11 f83_11b); simp) (n := N) (s := []) (by omega) ⟨by simp, by simp⟩
    rw [h3, h4.1, List.take_length]; rfl
  unfold f83_c9
  simp only [joinK]
  rw [show decide (z < 0) = false by simp; omega]
  simp only [cond_false]
  rw [show W (z - W (0 - 0)) = z by
    rw [show W ((0 : Int) - 0) = 0 from rfl, Int.sub_zero]; exact W_of (by omega) (by omega)]
  by_cases h0 : 0 < z
  · simp only [h0, decide_true, cond_true]
    unfold mkA
    rw [if_pos ⟨by omega, by omega⟩]
    simp only [Option.bind_some]
    rw [show subR (List.replicate z.toNat (0 : Int)) 0 0 = some [] by
      unfold subR sub
      rw [if_pos ⟨by omega, by omega, by omega⟩]; simp]
    exact hk
  · simp only [h0, decide_false, cond_false]
    exact hk
open Classical in
def Seen (b : List Bool) (f : Nat → Int) (i : Nat) : Prop := b.length = 10 ∧ ∀ x : Nat, x < 10 → (b[x]? = some true ↔ ∃ j, j < i ∧ f j = (x : Int)) 
theorem Seen.zero {f : Nat → Int} : Seen (List.replicate 10 false) f 0 :=
  ⟨by simp, fun x hx => by rw [List.getElem?_replicate, if_pos hx]; exact ⟨fun h => (by cases h), fun ⟨j, h, _⟩ => by omega⟩⟩
theorem Seen.get {b : List Bool} {f : Nat → Int} {i : Nat} (h : Seen b f i) {x : Int} (h0 : 0 ≤ x) (h1 : x < 10) : ∃ v, ixN b x.toNat = some v ∧ (v = true ↔ ∃ j, j < i ∧ f j = x) := by
  obtain ⟨hl, hb⟩ := h
  refine ⟨b[x.toNat]'(by omega), by simp [ixN, show x.toNat < b.length by omega], ?_⟩
  have := hb x.toNat (by omega)
  rw [List.getElem?_eq_getElem (by omega)] at this
  rw [show ((x.toNat : Nat) : Int) = x by omega] at this
  rw [← this]; simp
theorem Seen.set {b : List Bool} {f : Nat → Int} {i : Nat} (h : Seen b f i) {x : Int} (h0 : 0 ≤ x) (h1 : x < 10) (hx : f i = x) : ∃ b', setN b x.toNat true = some b' ∧ Seen b' f (i + 1) := by
  obtain ⟨hl, hb⟩ := h
  refine ⟨b.set x.toNat true, by simp [setN, show x.toNat < b.length by omega], by simp [hl], fun y hy => ?_⟩
  rw [List.getElem?_set]
  by_cases e : x.toNat = y
  · rw [if_pos e, if_pos (by omega)]
    exact ⟨fun _ => ⟨i, by omega, by omega⟩, fun _ => rfl⟩
  · rw [if_neg e, hb y hy]
    constructor
    · rintro ⟨j, h2, h3⟩; exact ⟨j, by omega, h3⟩
    · rintro ⟨j, h2, h3⟩
      by_cases hj : j = i
      · subst hj; omega
      · exact ⟨j, by omega, h3⟩
structure Sq (t : List (List Int)) : Prop where
  hi : t.length ≤ 10
  len : ∀ i, i < t.length → (row t i).length = t.length
  lo : ∀ i j, i < t.length → j < t.length → 0 ≤ en t i j ∧ en t i j < t.length
theorem chkI_ok {n : Nat} {x : Int} (h : 0 ≤ x) (h' : x < n) : chkI n x = some () := by simp [chkI, h, h']
theorem Sq.ix {t : List (List Int)} (h : Sq t) {i j : Nat} (hi : i < t.length) (hj : j < t.length) : Vc.ix (row t i) (j : Int) = some (en t i j) := ix_en (by rw [h.len i hi]; exact hj)
open Classical in
theorem f85_in {N : Nat} {t : List (List Int)} (hq : Sq t) {k0 k1 : Bool → Option Bool} {v : Nat} (hv : v < t.length) : ∀ n i a b, i ≤ t.length → t.length - i < n → Seen a (en t v) i → Seen b (fun j => en t j v) i →
    f85_7 t k0 (v : Int) k1 n false (i : Int) a b = if ∃ j, i ≤ j ∧ j < t.length ∧ ∃ k, k < j ∧ (en t v j = en t v k ∨ en t j v = en t k v) then k0 true else k1 false := by
  intro n
  induction n with
  | zero => intro i a b _ h; omega
  | succ n ih =>
    intro i a b hi hn ha hb
    have hlen := hq.hi
    conv => lhs; unfold f85_7 f85_7b
    by_cases h : i = t.length
    · subst h
      simp only [Int.lt_irrefl, decide_false, cond_false]
      rw [if_neg]
      rintro ⟨j, h1, h2, _⟩; omega
    · have hi : i < t.length := by omega
      have hn1 : t.length - (i + 1) < n := by omega
      have hw : W ((i : Int) + 1) = ((i + 1 : Nat) : Int) := W_nat (by omega)
      have r1 := hq.lo v i hv hi
      have r2 := hq.lo i v hi hv
      simp only [show (i : Int) < (t.length : Int) by omega, decide_true, cond_true, ix_row hv, ix_row hi, Option.bind_some, hq.ix hv hi, hq.ix hi hv, chkI_ok (n := 10) r1.1 (by omega), chkI_ok (n := 10) r2.1 (by omega)]
      obtain ⟨x, hx, hx2⟩ := ha.get r1.1 (by omega)
      obtain ⟨y, hy, hy2⟩ := hb.get r2.1 (by omega)
      rw [hx, hy]
      simp only [Option.bind_some]
      cases x with
      | true =>
        obtain ⟨k, h1, h2⟩ := hx2.1 rfl
        simp only [cond_true]
        rw [if_pos ⟨i, Nat.le_refl _, hi, k, h1, .inl h2.symm⟩]
      | false =>
        simp only [cond_false]
        cases y with
        | true =>
          obtain ⟨k, h1, h2⟩ := hy2.1 rfl
          simp only [cond_true]
          rw [if_pos ⟨i, Nat.le_refl _, hi, k, h1, .inr h2.symm⟩]
        | false =>
          simp only [cond_false]
          obtain ⟨a', ha1, ha2⟩ := ha.set r1.1 (by omega) rfl
          obtain ⟨b', hb1, hb2⟩ := hb.set r2.1 (by omega) rfl
          rw [ha1]
          simp only [Option.bind_some]
          rw [hb1]
          simp only [Option.bind_some]
          rw [hw, ih (i + 1) a' b' hi hn1 ha2 hb2]
          refine iffD ?_
          constructor
          · rintro ⟨j, h1, h2⟩; exact ⟨j, by omega, h2⟩
          · rintro ⟨j, h1, h2, k, h3, h4⟩
            by_cases hj : j = i
            · subst hj
              rcases h4 with h4 | h4
              · exact absurd (hx2.2 ⟨k, h3, h4.symm⟩) (by simp)
              · exact absurd (hy2.2 ⟨k, h3, h4.symm⟩) (by simp)
            · exact ⟨j, by omega, h2, k, h3, h4⟩
def Twice (t : List (List Int)) : Prop := ∃ i, i < t.length ∧ ∃ j, j < t.length ∧ ∃ k, k < j ∧ (en t i j = en t i k ∨ en t j i = en t k i)
open Classical in
theorem f85_eq {N : Nat} {t : List (List Int)} (hq : Sq t) (hN : 30 ≤ N) : ∃ b, f85 N t = some b ∧ (b = true ↔ Twice t) := by
  unfold f85
  have hlen := hq.hi
  simp only [joinK]
  rw [loop_ex0 (F := fun n i => f85_3 t N f85_c15 n false i) (e := some true) (k0 := some false) (p := fun i => ∃ j, j < t.length ∧ ∃ k, k < j ∧ (en t i j = en t i k ∨ en t j i = en t k i)) t.length]
  · unfold Twice
    by_cases h : ∃ i, i < t.length ∧ ∃ j, j < t.length ∧ ∃ k, k < j ∧ (en t i j = en t i k ∨ en t j i = en t k i)
    · exact ⟨true, by rw [if_pos h], by simp [h]⟩
    · exact ⟨false, by rw [if_neg h], by simp [h]⟩
  · intro n i hi
    show f85_3 t N f85_c15 (n + 1) false (i : Int) = _
    conv => lhs; unfold f85_3 f85_3b
    simp only [show (i : Int) < (t.length : Int) by omega, decide_true, cond_true, joinK]
    rw [show (0 : Int) = ((0 : Nat) : Int) from rfl, f85_in (N := N) hq hi N 0 _ _ (by omega) (by omega) Seen.zero Seen.zero]
    unfold f85_c14 f85_c15
    rw [W_nat (by omega)]
    refine iffD ⟨?_, ?_⟩
    · rintro ⟨j, _, h2⟩; exact ⟨j, h2⟩
    · rintro ⟨j, h2⟩; exact ⟨j, by omega, h2⟩
  · intro n
    show f85_3 t N f85_c15 (n + 1) false _ = _
    conv => lhs; unfold f85_3 f85_3b
    simp [f85_c15]
  · omega
theorem flat_ex {t : List (List Int)} (hlen : ∀ i, i < t.length → (row t i).length = t.length) {p : Int → Prop} : (∃ v, v < t.flatten.length ∧ p (t.flatten.getD v 0)) ↔ ∃ i, i < t.length ∧ ∃ j, j < t.length ∧ p (en t i j) := by
  constructor
  · rintro ⟨v, hv, hp⟩
    have hm : t.flatten.getD v 0 ∈ t.flatten := by
      rw [List.getD_eq_getElem?_getD, List.getElem?_eq_getElem hv]; exact List.getElem_mem hv
    obtain ⟨r, hr, hx⟩ := List.mem_flatten.1 hm
    obtain ⟨i, hi⟩ := List.mem_iff_getElem?.1 hr
    obtain ⟨j, hj⟩ := List.mem_iff_getElem?.1 hx
    have hi' := (List.getElem?_eq_some_iff.1 hi).1
    have hj' := (List.getElem?_eq_some_iff.1 hj).1
    have e1 : row t i = r := by rw [row_get hi'] at hi; exact Option.some.inj hi
    refine ⟨i, hi', j, by rw [← hlen i hi', e1]; exact hj', ?_⟩
    have : en t i j = t.flatten.getD v 0 := by unfold en; rw [e1, List.getD_eq_getElem?_getD, hj]; rfl
    rw [this]; exact hp
  · rintro ⟨i, hi, j, hj, hp⟩
    have hm : en t i j ∈ t.flatten := List.mem_flatten.2 ⟨row t i, row_mem hi, by
      unfold en
      have : j < (row t i).length := by rw [hlen i hi]; exact hj
      simp [this]⟩
    obtain ⟨v, hv⟩ := List.mem_iff_getElem?.1 hm
    exact ⟨v, (List.getElem?_eq_some_iff.1 hv).1, by rw [List.getD_eq_getElem?_getD, hv]; exact hp⟩
open Classical in
theorem f49_eq {N : Nat} {t : List (List Int)} (hs : Small t) (hN : 500 ≤ N) : f49 N t = some (chkT t) := by
  have hs0 := hs
  obtain ⟨hs, hr⟩ := hs
  unfold f49 chkT
  rw [f64_eq]
  simp only [Option.bind_some]
  by_cases h1 : 2 ≤ t.length ∧ t.length ≤ 10
  · rw [if_neg (by simp [h1]), show decide ((2 : Int) ≤ (t.length : Int) ∧ (t.length : Int) ≤ 10) = true by simp; omega]
    simp only [Bool.not_true, cond_false, joinK]
    rw [loop_ex0 (F := f49_i206_i207000102_2 t N (f49_i206_i207000102_c7 t N)) (e := some 3) (k0 := f49_i206_i207000102_c7 t N) (p := fun i => (row t i).length ≠ t.length) t.length]
    · by_cases h2 : ∃ i, i < t.length ∧ (row t i).length ≠ t.length
      · rw [if_pos h2, if_pos h2]
      · rw [if_neg h2, if_neg h2]
        have hl : ∀ i, i < t.length → (row t i).length = t.length := fun i hi => by
          by_cases hh : (row t i).length = t.length
          · exact hh
          · exact absurd ⟨i, hi, hh⟩ h2
        have hfl : t.flatten.length ≤ 400 := by
          have : ∀ (l : List (List Int)), (∀ r, r ∈ l → r.length ≤ 20) → l.flatten.length ≤ 20 * l.length := by
            intro l
            induction l with
            | nil => intro _; simp
            | cons x l ih =>
              intro h
              have := ih fun r hr => h r (by simp [hr])
              have := h x (by simp)
              simp only [List.flatten_cons, List.length_append, List.length_cons]; omega
          have := this t hr; omega
        unfold f49_i206_i207000102_c7
        rw [f83_eq hs0 (by omega)]
        simp only [Option.bind_some, joinK]
        rw [loop_ex0 (F := f49_i403_i404000102_2 t N t.flatten (f49_i403_i404000102_c7 t N)) (e := some 4) (k0 := f49_i403_i404000102_c7 t N) (p := fun v => ¬ (0 ≤ t.flatten.getD v 0 ∧ t.flatten.getD v 0 < t.length)) t.flatten.length]
        · by_cases h3 : ∃ i, i < t.length ∧ ∃ j, j < t.length ∧ ¬ (0 ≤ en t i j ∧ en t i j < t.length)
          · rw [if_pos h3, if_pos ((flat_ex hl (p := fun x => ¬ (0 ≤ x ∧ x < t.length))).2 h3)]
          · rw [if_neg h3, if_neg (fun hh => h3 ((flat_ex hl (p := fun x => ¬ (0 ≤ x ∧ x < t.length))).1 hh))]
            unfold f49_i403_i404000102_c7
            have hq : Sq t := ⟨h1.2, hl, fun i j hi hj => by
              by_cases hh : 0 ≤ en t i j ∧ en t i j < t.length
              · exact hh
              · exact absurd ⟨i, hi, j, hj, hh⟩ h3⟩
            obtain ⟨b, hb, hb2⟩ := f85_eq (N := N) hq (by omega)
            rw [hb]
            simp only [Option.bind_some]
            unfold Twice at hb2
            cases b with
            | true => rw [if_pos (hb2.1 rfl)]; rfl
            | false => rw [if_neg (fun hh => absurd (hb2.2 hh) (by simp))]; rfl
        · intro n v hv
          conv => lhs; unfold f49_i403_i404000102_2 f49_i403_i404000102_2b
          have hg : ix t.flatten (v : Int) = some (t.flatten.getD v 0) := by rw [ix_nat, List.getD_eq_getElem?_getD, List.getElem?_eq_getElem hv]; rfl
          simp only [show (v : Int) < (t.flatten.length : Int) by omega, decide_true, cond_true, hg, Option.bind_some, f64_eq, W_sub1 (show t.length ≤ 1000000 by omega), show (0 : Int) ≤ (v : Int) by omega]
          rw [W_nat (by omega)]
          by_cases e1 : 0 ≤ t.flatten.getD v 0 ∧ t.flatten.getD v 0 < t.length
          · rw [if_neg (by simpa using e1), show decide (0 ≤ t.flatten.getD v 0 ∧ t.flatten.getD v 0 ≤ (t.length : Int) - 1) = true by simp only [decide_eq_true_eq]; omega]; rfl
          · rw [if_pos e1, show decide (0 ≤ t.flatten.getD v 0 ∧ t.flatten.getD v 0 ≤ (t.length : Int) - 1) = false by simp only [decide_eq_false_iff_not]; omega]; rfl
        · intro n; (conv => lhs; unfold f49_i403_i404000102_2 f49_i403_i404000102_2b); simp
        · omega
    · intro n i hi
      conv => lhs; unfold f49_i206_i207000102_2 f49_i206_i207000102_2b
      simp only [show (i : Int) < (t.length : Int) by omega, decide_true, cond_true, ix_row (show i < t.length from hi), Option.bind_some, show (0 : Int) ≤ (i : Int) by omega]
      rw [W_nat (by omega)]
      by_cases e1 : (row t i).length = t.length
      · simp [e1]
      · simp [e1, show ¬ ((row t i).length : Int) = (t.length : Int) by omega]
    · intro n; (conv => lhs; unfold f49_i206_i207000102_2 f49_i206_i207000102_2b); simp
    · omega
  · rw [if_pos (by simpa using h1), show decide ((2 : Int) ≤ (t.length : Int) ∧ (t.length : Int) ≤ 10) = false by simp; omega]
    rfl
structure Lat (t : List (List Int)) : Prop extends Sq t where
  two : 2 ≤ t.length
  once : ¬ Twice t
open Classical in
theorem chkT_good {t : List (List Int)} : chkT t = 0 ↔ Lat t := by
  unfold chkT
  constructor
  · intro h
    split at h
    · exact absurd h (by decide)
    · rename_i h1
      split at h
      · exact absurd h (by decide)
      · rename_i h2
        split at h
        · exact absurd h (by decide)
        · rename_i h3
          split at h
          · exact absurd h (by decide)
          · rename_i h4
            refine ⟨⟨by omega, fun i hi => ?_, fun i j hi hj => ?_⟩, by omega, h4⟩
            · by_cases hh : (row t i).length = t.length
              · exact hh
              · exact absurd ⟨i, hi, hh⟩ h2
            · by_cases hh : 0 ≤ en t i j ∧ en t i j < t.length
              · exact hh
              · exact absurd ⟨i, hi, j, hj, hh⟩ h3
  · intro h
    rw [if_neg (fun hn => hn ⟨h.two, h.hi⟩), if_neg (by rintro ⟨i, hi, hh⟩; exact hh (h.len i hi)), if_neg (by rintro ⟨i, hi, j, hj, hh⟩; exact hh (h.lo i j hi hj))]
    exact if_neg h.once
end Go.Vc
namespace Go.Vc
open Go.Proofs
set_option linter.unusedVariables false
set_option linter.unnecessarySimpa false
set_option linter.unusedSimpArgs false
end Go.Vc
namespace Go.Vc
open Go.Proofs
set_option linter.unusedVariables false
set_option linter.unnecessarySimpa false
set_option linter.unusedSimpArgs false
end Go.Vc
namespace Go.Vc
open Go.Proofs
set_option linter.unusedVariables false
set_option linter.unnecessarySimpa false
set_option linter.unusedSimpArgs false
end Go.Vc
namespace Go.Vc
open Go.Proofs
set_option linter.unusedVariables false
set_option linter.unnecessarySimpa false
set_option linter.unusedSimpArgs false
end Go.Vc
namespace Go.Vc
open Go.Proofs
set_option linter.unusedVariables false
set_option linter.unnecessarySimpa false
set_option linter.unusedSimpArgs false
end Go.Vc
namespace Go.Vc
open Go.Proofs
set_option linter.unusedVariables false
set_option linter.unnecessarySimpa false
set_option linter.unusedSimpArgs false
end Go.Vc
namespace Go.Vc
open Go.Proofs
set_option linter.unusedVariables false
set_option linter.unnecessarySimpa false
set_option linter.unusedSimpArgs false
end Go.Vc
namespace Go.Vc
open Go.Proofs
set_option linter.unusedVariables false
set_option linter.unnecessarySimpa false
set_option linter.unusedSimpArgs false
end Go.Vc
namespace Go.Vc
open Go.Proofs
set_option linter.unusedVariables false
set_option linter.unnecessarySimpa false
set_option linter.unusedSimpArgs false
end Go.Vc
namespace Go.Vc
set_option linter.unusedVariables false
set_option linter.unnecessarySimpa false
set_option linter.unusedSimpArgs false
set_option linter.unusedSimpArgs false
theorem pig : ∀ (n : Nat) (f : Nat → Nat), (∀ i, i < n → f i < n) → (∀ i j, i < n → j < n → f i = f j → i = j) → ∀ y, y < n → ∃ i, i < n ∧ f i = y := by
  intro n
  induction n with
  | zero => intro f _ _ y h; omega
  | succ m ih =>
    intro f h hi y hy
    have hz := h m (by omega)
    have hg := ih (fun i => if f i = m then f m else f i) (by
      intro i him
      have h1 := h i (by omega)
      by_cases e : f i = m
      · have : f m ≠ m := fun hh => by have := hi i m (by omega) (by omega) (e.trans hh.symm); omega
        simp only [e, if_true]; omega
      · simp only [e, if_false]; omega) (by
      intro i j him hjm hh
      by_cases e : f i = m
      · by_cases e2 : f j = m
        · exact hi i j (by omega) (by omega) (e.trans e2.symm)
        · simp only [e, e2, if_true, if_false] at hh
          have := hi m j (by omega) (by omega) hh; omega
      · by_cases e2 : f j = m
        · simp only [e, e2, if_true, if_false] at hh
          have := hi i m (by omega) (by omega) hh; omega
        · simp only [e, e2, if_false] at hh
          exact hi i j (by omega) (by omega) hh)
    by_cases e : y = f m
    · exact ⟨m, by omega, e.symm⟩
    · by_cases e2 : y < m
      · obtain ⟨i, h1, h2⟩ := hg y e2
        refine ⟨i, by omega, ?_⟩
        by_cases e3 : f i = m
        · simp only [e3, if_true] at h2; omega
        · simpa only [e3, if_false] using h2
      · obtain ⟨i, h1, h2⟩ := hg (f m) (by omega)
        refine ⟨i, by omega, ?_⟩
        by_cases e3 : f i = m
        · omega
        · simp only [e3, if_false] at h2
          have := hi i m (by omega) (by omega) h2; omega
def dl (t : List (List Int)) (s : Nat) (l : List Int) : Nat := l.foldl (fun s d => (en t s d.toNat).toNat) s
def Dig (t : List (List Int)) (l : List Int) : Prop := ∀ x, x ∈ l → 0 ≤ x ∧ x < t.length
theorem dl_nil {t : List (List Int)} {s : Nat} : dl t s [] = s := rfl
theorem dl_cons {t : List (List Int)} {s : Nat} {d : Int} {l : List Int} : dl t s (d :: l) = dl t (en t s d.toNat).toNat l := rfl
theorem dl_append {t : List (List Int)} {s : Nat} {a b : List Int} : dl t s (a ++ b) = dl t (dl t s a) b := by simp [dl]
theorem Dig.cons {t : List (List Int)} {d : Int} {l : List Int} (h : Dig t (d :: l)) : (0 ≤ d ∧ d < t.length) ∧ Dig t l := ⟨h d (by simp), fun x hx => h x (by simp [hx])⟩
theorem Sq.step {t : List (List Int)} (h : Sq t) {s : Nat} {d : Int} (hs : s < t.length) (hd : 0 ≤ d ∧ d < t.length) : (en t s d.toNat).toNat < t.length ∧ Vc.ix (row t s) d = some (((en t s d.toNat).toNat : Nat) : Int) := by
  have := h.lo s d.toNat hs (by omega)
  refine ⟨by omega, ?_⟩
  have h2 := h.ix hs (show d.toNat < t.length by omega)
  rw [show ((d.toNat : Nat) : Int) = d by omega] at h2
  rw [h2]; congr 1; omega
theorem dl_lt {t : List (List Int)} (h : Sq t) : ∀ {l : List Int} {s : Nat}, s < t.length → Dig t l → dl t s l < t.length
  | [], s, hs, _ => hs
  | d :: l, s, hs, hd => by rw [dl_cons]; exact dl_lt h (h.step hs hd.cons.1).1 hd.cons.2
theorem f59_loop {t : List (List Int)} (h : Sq t) {l : List Int} {k0 : Int → Option Int} (hl : l.length ≤ 1000000) (hd : Dig t l) : ∀ n (i s : Nat), i ≤ l.length → l.length - i < n → s < t.length → f59_i103_2 t l k0 n (s : Int) (i : Int) = k0 ((dl t s (l.drop i) : Nat) : Int) := by
  intro n
  induction n with
  | zero => intro i s _ h; omega
  | succ n ih =>
    intro i s hi hn hs
    conv => lhs; unfold f59_i103_2 f59_i103_2b
    by_cases e : i = l.length
    · subst e; simp [dl_nil]
    · have hi : i < l.length := by omega
      have hx : 0 ≤ l[i] ∧ l[i] < t.length := hd _ (List.getElem_mem hi)
      obtain ⟨h1, h2⟩ := h.step hs hx
      simp only [show (i : Int) < (l.length : Int) by omega, decide_true, cond_true, ix_get hi, Option.bind_some, ix_row hs, h2]
      rw [W_nat (by omega), ih (i + 1) _ hi (by omega) h1, List.drop_eq_getElem_cons hi, dl_cons]
theorem f59_eq {N : Nat} {t : List (List Int)} (h : Sq t) {l : List Int} {s : Nat} (hd : Dig t l) (hs : s < t.length) (hl : l.length ≤ 50) (hN : 100 ≤ N) : f59 N t (s : Int) l = some ((dl t s l : Nat) : Int) := by
  unfold f59
  simp only [joinK]
  have := f59_loop h (k0 := f59_i103_c6 t) (by omega) hd N 0 s (by omega) (by omega) hs
  rw [show ((0 : Nat) : Int) = 0 from rfl] at this
  rw [this]; rfl
open Classical in
noncomputable def digT (t : List (List Int)) (l : List Int) : Int :=
  if chkT t ≠ 0 then chkT t else if 12 < l.length then 2 else if ∃ i, i < l.length ∧ ¬ (0 ≤ l.getD i 0 ∧ l.getD i 0 < t.length) then 4 else 0
theorem dig_iff {t : List (List Int)} {l : List Int} : Dig t l ↔ ¬ ∃ i, i < l.length ∧ ¬ (0 ≤ l.getD i 0 ∧ l.getD i 0 < t.length) := by
  constructor
  · rintro h ⟨i, hi, hn⟩
    exact hn (h _ (by simp [hi]))
  · intro h x hx
    obtain ⟨i, hi⟩ := List.mem_iff_getElem?.1 hx
    have := (List.getElem?_eq_some_iff.1 hi).1
    by_cases hh : 0 ≤ x ∧ x < t.length
    · exact hh
    · exact absurd ⟨i, this, by simpa [hi] using hh⟩ h
theorem ix_getD {l : List Int} {i : Nat} (h : i < l.length) : ix l (i : Int) = some (l.getD i 0) := by simp [ix_nat, h]
open Classical in
theorem f58_eq {N : Nat} {t : List (List Int)} {l : List Int} (hs : Small t) (hl : l.length ≤ 50) (hN : 500 ≤ N) : f58 N t l = some (digT t l) := by
  unfold f58 digT
  rw [f49_eq hs hN]
  simp only [Option.bind_some]
  by_cases h1 : chkT t = 0
  · rw [if_neg (by simp [h1])]
    simp only [h1, not_true_eq_false, decide_false, cond_false]
    by_cases h2 : 12 < l.length
    · rw [if_pos h2]; simp [show (12 : Int) < (l.length : Int) by omega]
    · rw [if_neg h2]
      simp only [show ¬ (12 : Int) < (l.length : Int) by omega, decide_false, cond_false, joinK]
      have := hs.1
      rw [loop_ex0 (F := f58_i602_i603000102_2 t l N (f58_i602_i603000102_c7 t)) (e := some 4) (k0 := some 0) (p := fun i => ¬ (0 ≤ l.getD i 0 ∧ l.getD i 0 < t.length)) l.length]
      · split <;> rfl
      · intro n i hi
        conv => lhs; unfold f58_i602_i603000102_2 f58_i602_i603000102_2b
        simp only [show (i : Int) < (l.length : Int) by omega, decide_true, cond_true, ix_getD hi, Option.bind_some, f64_eq, W_sub1 (show t.length ≤ 1000000 by omega), show (0 : Int) ≤ (i : Int) by omega]
        rw [W_nat (by omega)]
        by_cases e1 : 0 ≤ l.getD i 0 ∧ l.getD i 0 < t.length
        · rw [if_neg (by simpa using e1), show decide (0 ≤ l.getD i 0 ∧ l.getD i 0 ≤ (t.length : Int) - 1) = true by simp only [decide_eq_true_eq]; omega]; rfl
        · rw [if_pos e1, show decide (0 ≤ l.getD i 0 ∧ l.getD i 0 ≤ (t.length : Int) - 1) = false by simp only [decide_eq_false_iff_not]; omega]; rfl
      · intro n; (conv => lhs; unfold f58_i602_i603000102_2 f58_i602_i603000102_2b); simp; rfl
      · omega
  · rw [if_pos h1]; simp [h1]
theorem digT_ok {t : List (List Int)} {l : List Int} : digT t l = 0 ↔ Lat t ∧ l.length ≤ 12 ∧ Dig t l := by
  unfold digT
  rw [dig_iff, ← chkT_good]
  by_cases h1 : chkT t = 0
  · rw [if_neg (by simp [h1])]
    by_cases h2 : 12 < l.length
    · rw [if_pos h2]
      constructor
      · intro h; exact absurd h (by decide)
      · rintro ⟨_, h, _⟩; omega
    · rw [if_neg h2]
      by_cases h3 : ∃ i, i < l.length ∧ ¬ (0 ≤ l.getD i 0 ∧ l.getD i 0 < t.length)
      · rw [if_pos h3]
        exact ⟨fun h => absurd h (by decide), fun h => absurd h3 h.2.2⟩
      · rw [if_neg h3]
        exact ⟨fun _ => ⟨h1, by omega, h3⟩, fun _ => rfl⟩
  · rw [if_pos h1]
    exact ⟨fun h => absurd h h1, fun h => absurd h.1 h1⟩
end Go.Vc
namespace Go.Vc
set_option linter.unusedVariables false
set_option linter.unnecessarySimpa false
set_option linter.unusedSimpArgs false
set_option linter.unusedSimpArgs false
theorem Lat.rowInj {t : List (List Int)} (h : Lat t) {s i j : Nat} (hs : s < t.length) (hi : i < t.length) (hj : j < t.length) (e : en t s i = en t s j) : i = j := by
  rcases Nat.lt_trichotomy i j with h1 | h1 | h1
  · exact absurd ⟨s, hs, j, hj, i, h1, .inl e.symm⟩ h.once
  · exact h1
  · exact absurd ⟨s, hs, i, hi, j, h1, .inl e⟩ h.once
theorem Lat.colInj {t : List (List Int)} (h : Lat t) {s i j : Nat} (hs : s < t.length) (hi : i < t.length) (hj : j < t.length) (e : en t i s = en t j s) : i = j := by
  rcases Nat.lt_trichotomy i j with h1 | h1 | h1
  · exact absurd ⟨s, hs, j, hj, i, h1, .inr e.symm⟩ h.once
  · exact h1
  · exact absurd ⟨s, hs, i, hi, j, h1, .inr e⟩ h.once
theorem dl_inj {t : List (List Int)} (h : Lat t) : ∀ {l : List Int} {a b : Nat}, a < t.length → b < t.length → Dig t l → dl t a l = dl t b l → a = b
  | [], a, b, _, _, _, e => e
  | d :: l, a, b, ha, hb, hd, e => by
    rw [dl_cons, dl_cons] at e
    have hd1 := hd.cons.1
    have := dl_inj h (h.step ha hd1).1 (h.step hb hd1).1 hd.cons.2 e
    have r1 := h.lo a d.toNat ha (by omega)
    have r2 := h.lo b d.toNat hb (by omega)
    exact h.colInj (s := d.toNat) (by omega) ha hb (by omega)
theorem Lat.digit {t : List (List Int)} (h : Lat t) {s : Nat} {post : List Int} (hs : s < t.length) (hp : Dig t post) {y : Nat} (hy : y < t.length) : ∃ d, d < t.length ∧ dl t (en t s d).toNat post = y :=
  pig t.length (fun d => dl t (en t s d).toNat post) (fun i hi => dl_lt h.toSq (by have := h.lo s i hs hi; omega) hp)
    (fun i j hi hj e => by
      have r1 := h.lo s i hs hi
      have r2 := h.lo s j hs hj
      have := dl_inj h (by omega) (by omega) hp e
      exact h.rowInj hs hi hj (by omega)) y hy
theorem Lat.digit1 {t : List (List Int)} (h : Lat t) {s : Nat} {post : List Int} (hs : s < t.length) (hp : Dig t post) {i j : Nat} (hi : i < t.length) (hj : j < t.length) (e : dl t (en t s i).toNat post = dl t (en t s j).toNat post) : i = j := by
  have r1 := h.lo s i hs hi
  have r2 := h.lo s j hs hj
  have := dl_inj h (by omega) (by omega) hp e
  exact h.rowInj hs hi hj (by omega)
open Classical in
noncomputable def codT (t : List (List Int)) (l : List Int) : Int := if chkT t ≠ 0 then chkT t else if l.length < 2 then 1 else digT t l
open Classical in
theorem f63_eq {N : Nat} {t : List (List Int)} {l : List Int} (hs : Small t) (hl : l.length ≤ 50) (hN : 500 ≤ N) : f63 N t l = some (codT t l) := by
  unfold f63 codT
  rw [f49_eq hs hN]
  simp only [Option.bind_some]
  by_cases h1 : chkT t = 0
  · by_cases h2 : l.length < 2
    · simp [h1, h2, show (l.length : Int) < 2 by omega]
    · rw [f58_eq hs hl hN]
      simp [h1, h2, show ¬ (l.length : Int) < 2 by omega]
  · simp [h1]
theorem codT_ok {t : List (List Int)} {l : List Int} : codT t l = 0 ↔ Lat t ∧ 2 ≤ l.length ∧ l.length ≤ 12 ∧ Dig t l := by
  unfold codT
  by_cases h1 : chkT t = 0
  · rw [if_neg (by simp [h1])]
    by_cases h2 : l.length < 2
    · rw [if_pos h2]
      exact ⟨fun h => absurd h (by decide), fun h => by omega⟩
    · rw [if_neg h2, digT_ok]
      exact ⟨fun h => ⟨h.1, by omega, h.2⟩, fun h => ⟨h.1, h.2.2⟩⟩
  · rw [if_pos h1, ← chkT_good]
    exact ⟨fun h => absurd h h1, fun h => absurd h.1 h1⟩
open Classical in
noncomputable def rightT (t : List (List Int)) (l : List Int) : Int := if codT t l = 0 then if dl t 0 l = 0 then 0 else 13 else codT t l
theorem f27_eq {N : Nat} {t : List (List Int)} {l : List Int} (hs : Small t) (hl : l.length ≤ 40) (hN : 500 ≤ N) : f27 N t l = some (rightT t l) := by
  unfold f27 rightT
  rw [f63_eq hs (by omega) hN]
  simp only [Option.bind_some]
  by_cases h : codT t l = 0
  · obtain ⟨h1, h2, h3, h4⟩ := codT_ok.1 h
    have h0 := h1.two
    have := f59_eq (N := N) h1.toSq h4 (show 0 < t.length by omega) (by omega) (by omega)
    rw [show ((0 : Nat) : Int) = 0 from rfl] at this
    rw [this]
    by_cases h5 : dl t 0 l = 0 <;> simp [h, h5]
  · simp [h]
theorem set_split {l : List Int} {k : Nat} (h : k < l.length) (d : Int) : l.set k d = l.take k ++ d :: l.drop (k + 1) := by
  rw [List.set_eq_take_append_cons_drop, if_pos h]
theorem Dig.take {t : List (List Int)} {l : List Int} (h : Dig t l) (k : Nat) : Dig t (l.take k) := fun x hx => h x (List.mem_of_mem_take hx)
theorem Dig.drop {t : List (List Int)} {l : List Int} (h : Dig t l) (k : Nat) : Dig t (l.drop k) := fun x hx => h x (List.mem_of_mem_drop hx)
theorem Dig.set {t : List (List Int)} {l : List Int} (h : Dig t l) {k : Nat} {d : Int} (hd : 0 ≤ d ∧ d < t.length) : Dig t (l.set k d) := fun x hx => by
  rcases List.mem_or_eq_of_mem_set hx with hx | rfl
  · exact h x hx
  · exact hd
theorem dl_set {t : List (List Int)} {l : List Int} {k d : Nat} (h : k < l.length) : dl t 0 (l.set k (d : Int)) = dl t (en t (dl t 0 (l.take k)) d).toNat (l.drop (k + 1)) := by
  rw [set_split h, dl_append, dl_cons]; rfl
theorem sub_pre {l : List Int} {k : Nat} (hk : k ≤ l.length) : sub l 0 (k : Int) = some (l.take k) := by
  have := sub_nat (l := l) (a := 0) (b := k) (by omega) hk
  simpa using this
theorem sub_post {l : List Int} {k : Nat} (hk : k ≤ l.length) : sub l (k : Int) (l.length : Int) = some (l.drop k) := by
  have := sub_nat (l := l) (a := k) (b := l.length) hk (by omega)
  simpa using this
theorem fix1 {t : List (List Int)} {l : List Int} {k i j : Nat} (h1 : Lat t) (h4 : Dig t l) (hk : k < l.length) (hi : i < t.length) (hj : j < t.length) (e1 : dl t 0 (l.set k (i : Int)) = 0) (e2 : dl t 0 (l.set k (j : Int)) = 0) : i = j := by
  have h0 := h1.two
  rw [dl_set hk] at e1 e2
  exact h1.digit1 (dl_lt h1.toSq (by omega) (h4.take k)) (h4.drop (k + 1)) hi hj (e1.trans e2.symm)
end Go.Vc
namespace Go.Vc
open Go.Proofs
set_option linter.unusedVariables false
set_option linter.unnecessarySimpa false
set_option linter.unusedSimpArgs false
end Go.Vc
namespace Go.Vc
open Go.Proofs
set_option linter.unusedVariables false
set_option linter.unnecessarySimpa false
set_option linter.unusedSimpArgs false
end Go.Vc
namespace Go.Vc
open Go.Proofs
set_option linter.unusedVariables false
set_option linter.unnecessarySimpa false
set_option linter.unusedSimpArgs false
end Go.Vc
namespace Go.Vc
open Go.Proofs
set_option linter.unusedVariables false
set_option linter.unnecessarySimpa false
set_option linter.unusedSimpArgs false
end Go.Vc
namespace Go.Vc
set_option linter.unusedVariables false
set_option linter.unnecessarySimpa false
set_option linter.unusedSimpArgs false
set_option linter.unusedSimpArgs false
theorem mem_getD {l : List Int} {i : Nat} (h : i < l.length) : l.getD i 0 ∈ l := by simp [h]
end Go.Vc
namespace Go.Vc
open Go.Proofs
set_option linter.unusedVariables false
set_option linter.unnecessarySimpa false
set_option linter.unusedSimpArgs false
end Go.Vc
namespace Go.Vc
open Go.Proofs
set_option linter.unusedVariables false
set_option linter.unnecessarySimpa false
set_option linter.unusedSimpArgs false
end Go.Vc
namespace Go.Vc
open Go.Proofs
set_option linter.unusedVariables false
set_option linter.unnecessarySimpa false
set_option linter.unusedSimpArgs false
end Go.Vc
namespace Go.Vc
set_option linter.unusedVariables false
set_option linter.unnecessarySimpa false
set_option linter.unusedSimpArgs false
set_option linter.unusedSimpArgs false
theorem tmod_nat (a b : Nat) : Int.tmod (a : Int) (b : Int) = ((a % b : Nat) : Int) := rfl
theorem tdiv_nat (a b : Nat) : Int.tdiv (a : Int) (b : Int) = ((a / b : Nat) : Int) := rfl
theorem chk_pos {n : Nat} (h : 0 < n) : chk (decide ((n : Int) ≠ 0)) = some () := by
  rw [show decide ((n : Int) ≠ 0) = true by simp; omega]; rfl
theorem mkS_nat {k : Nat} (hk : k ≤ 1000) : mkS 8 (0 : Int) (k : Int) (k : Int) = some (List.replicate k 0) := by
  unfold mkS
  rw [if_pos ⟨by omega, by omega, by omega⟩]; simp
end Go.Vc
namespace Go.Vc
set_option linter.unusedVariables false
set_option linter.unnecessarySimpa false
set_option linter.unusedSimpArgs false
set_option linter.unusedSimpArgs false
def ltS (x y : Spot) : Prop := x.State < y.State ∨ (x.State = y.State ∧ (x.A < y.A ∨ (x.A = y.A ∧ x.B < y.B)))
instance (x y : Spot) : Decidable (ltS x y) := by unfold ltS; infer_instance
theorem ltS_asymm {x y : Spot} (h : ltS x y) : ¬ ltS y x := by unfold ltS at *; omega
theorem leS_trans {x y z : Spot} (h : ¬ ltS y x) (h2 : ¬ ltS z y) : ¬ ltS z x := by unfold ltS at *; omega
theorem ltS_irrefl {x : Spot} : ¬ ltS x x := by unfold ltS; omega
theorem leS_antisymm {x y : Spot} (h : ¬ ltS y x) (h2 : ¬ ltS x y) : x = y := by
  unfold ltS at *
  cases x; cases y
  simp only at *
  congr 1 <;> omega
theorem f108_eq {N : Nat} {a : Int} : f108 N a = some false := by
  unfold f108; simp
theorem f97_eq {N : Nat} {a b : Int} : f97 N a b = some (if a < b then -1 else if b < a then 1 else 0) := by
  unfold f97
  rw [f108_eq, f108_eq]
  by_cases h : a < b
  · simp [h]
  · by_cases h2 : b < a <;> simp [h, h2]
theorem f91_eq {N : Nat} {x y : Spot} (hN : 10 ≤ N) : ∃ c : Int, f91 N x y = some c ∧ (c < 0 ↔ ltS x y) := by
  obtain ⟨n, rfl⟩ : ∃ n, N = n + 10 := ⟨N - 10, by omega⟩
  unfold f91 f92
  simp only [joinK]
  have key : ∀ (k0 : Option Int) (m : Nat) (i : Nat), i < 3 → f92_2 [x.State, x.A, x.B] [y.State, y.A, y.B] (n + 10) k0 (m + 1) (i : Int) =
      if [x.State, x.A, x.B].getD i 0 < [y.State, y.A, y.B].getD i 0 then some (-1) else if [y.State, y.A, y.B].getD i 0 < [x.State, x.A, x.B].getD i 0 then some 1 else f92_2 [x.State, x.A, x.B] [y.State, y.A, y.B] (n + 10) k0 m ((i + 1 : Nat) : Int) := by
    intro k0 m i hi
    conv => lhs; unfold f92_2 f92_2b
    have h1 : ix [x.State, x.A, x.B] (i : Int) = some ([x.State, x.A, x.B].getD i 0) := by
      rw [ix_nat, List.getD_eq_getElem?_getD, List.getElem?_eq_getElem (by simpa using hi)]; rfl
    have h2 : ix [y.State, y.A, y.B] (i : Int) = some ([y.State, y.A, y.B].getD i 0) := by
      rw [ix_nat, List.getD_eq_getElem?_getD, List.getElem?_eq_getElem (by simpa using hi)]; rfl
    rw [show decide ((i : Int) < ([x.State, x.A, x.B].length : Int)) = true by simp; omega, show decide (([y.State, y.A, y.B].length : Int) ≤ (i : Int)) = false by simp; omega, h1, h2]
    simp only [cond_true, cond_false, Option.bind_some, f97_eq]
    rw [W_nat (by omega)]
    generalize [x.State, x.A, x.B].getD i 0 = u
    generalize [y.State, y.A, y.B].getD i 0 = v
    by_cases e1 : u < v
    · simp [e1]
    · by_cases e2 : v < u
      · simp [e1, e2]
      · simp [e1, e2]
  have hend : ∀ (k0 : Option Int) (m : Nat), f92_2 [x.State, x.A, x.B] [y.State, y.A, y.B] (n + 10) k0 (m + 1) ((3 : Nat) : Int) = k0 := by
    intro k0 m
    conv => lhs; unfold f92_2 f92_2b
    simp
  have h0 := key (f92_c11 [x.State, x.A, x.B] [y.State, y.A, y.B]) (n + 9) 0 (by omega)
  have h1 := key (f92_c11 [x.State, x.A, x.B] [y.State, y.A, y.B]) (n + 8) 1 (by omega)
  have h2 := key (f92_c11 [x.State, x.A, x.B] [y.State, y.A, y.B]) (n + 7) 2 (by omega)
  have h3 := hend (f92_c11 [x.State, x.A, x.B] [y.State, y.A, y.B]) (n + 6)
  rw [show ((0 : Nat) : Int) = 0 from rfl] at h0
  simp only [Nat.add_assoc, Nat.reduceAdd] at h0 h1 h2 h3
  rw [h0, h1, h2, h3]
  simp only [List.getD_cons_zero, List.getD_cons_succ]
  unfold f92_c11 ltS
  by_cases a1 : x.State < y.State
  · exact ⟨-1, by simp [a1], by simp [a1]⟩
  · by_cases a2 : y.State < x.State
    · exact ⟨1, by simp [a1, a2], by simp; omega⟩
    · by_cases a3 : x.A < y.A
      · exact ⟨-1, by simp [a1, a2, a3], by simp; omega⟩
      · by_cases a4 : y.A < x.A
        · exact ⟨1, by simp [a1, a2, a3, a4], by simp; omega⟩
        · by_cases a5 : x.B < y.B
          · exact ⟨-1, by simp [a1, a2, a3, a4, a5], by simp; omega⟩
          · by_cases a6 : y.B < x.B
            · exact ⟨1, by simp [a1, a2, a3, a4, a5, a6], by simp; omega⟩
            · exact ⟨0, by simp [a1, a2, a3, a4, a5, a6], by simp; omega⟩
end Go.Vc
namespace Go.Vc
set_option linter.unusedVariables false
set_option linter.unnecessarySimpa false
set_option linter.unusedSimpArgs false
set_option linter.unusedSimpArgs false
instance : Inhabited Spot := ⟨⟨0, 0, 0⟩⟩
def at' (l : List Spot) (i : Nat) : Spot := l.getD i default
theorem at_get {l : List Spot} {i : Nat} (h : i < l.length) : l[i]? = some (at' l i) := by simp [at', h]
theorem ix_at {l : List Spot} {i : Nat} (h : i < l.length) : ix l (i : Int) = some (at' l i) := by rw [ix_nat, at_get h]
def sw (l : List Spot) (i j : Nat) : List Spot := (l.set i (at' l j)).set j (at' l i)
theorem sw_len {l : List Spot} {i j : Nat} : (sw l i j).length = l.length := by simp [sw]
theorem at_set {l : List Spot} {i j : Nat} {x : Spot} (h : i < l.length) : at' (l.set i x) j = if i = j then x else at' l j := by
  simp only [at', List.getD_eq_getElem?_getD, List.getElem?_set]
  by_cases e : i = j
  · subst e; simp [h]
  · simp [e]
theorem at_sw {l : List Spot} {i j k : Nat} (hi : i < l.length) (hj : j < l.length) : at' (sw l i j) k = if j = k then at' l i else if i = k then at' l j else at' l k := by
  unfold sw
  rw [at_set (by simpa using hj), at_set hi]
theorem setx_at {l : List Spot} {i : Nat} {x : Spot} (h : i < l.length) : setx l (i : Int) x = some (l.set i x) := by
  unfold setx; rw [if_pos ⟨by omega, by omega⟩]; simp
theorem list_ext {a b : List Spot} (h : a.length = b.length) (h2 : ∀ i, i < a.length → at' a i = at' b i) : a = b := by
  apply List.ext_getElem h
  intro i h1 h3
  have := h2 i h1
  simpa [at', h1, h3] using this
theorem sw_perm {l : List Spot} {i j : Nat} (hi : i < l.length) (hj : j < l.length) : (sw l i j).Perm l := by
  rw [List.perm_iff_count]
  intro a
  unfold sw
  have e1 : at' l i = l[i] := by simp [at', hi]
  have e2 : at' l j = l[j] := by simp [at', hj]
  rw [List.count_set (by simpa using hj), List.count_set hi, e1, e2]
  by_cases e : i = j
  · subst e
    have : 0 < List.count l[i] l := List.count_pos_iff.2 (List.getElem_mem hi)
    simp only [List.getElem_set_self]
    by_cases h : l[i] = a
    · subst h; first | (simp; done) | (simp; omega)
    · simp [h]
  · rw [List.getElem_set_ne e]
    have h1 : 0 < List.count l[i] l := List.count_pos_iff.2 (List.getElem_mem hi)
    have h2 : 0 < List.count l[j] l := List.count_pos_iff.2 (List.getElem_mem hj)
    by_cases a1 : l[i] = a <;> by_cases a2 : l[j] = a
    · subst a1; first | (simp [a2]; done) | (simp [a2]; omega)
    · subst a1; first | (simp [a2]; done) | (simp [a2]; omega)
    · subst a2; first | (simp [a1]; done) | (simp [a1]; omega)
    · simp [a1, a2]
theorem sw_run {ρ : Type} {l : List Spot} {i j : Nat} {r : List Spot → Option ρ} (hi : i < l.length) (hj : j < l.length) :
    ((ix l (j : Int)).bind fun x1 => (ix l (i : Int)).bind fun x2 => (ix l (i : Int)).bind fun _ => (setx l (i : Int) x1).bind fun x4 => (ix x4 (j : Int)).bind fun _ => (setx x4 (j : Int) x2).bind r) = r (sw l i j) := by
  rw [ix_at hj, ix_at hi]
  simp only [Option.bind_some, setx_at hi]
  rw [ix_at (by simpa using hj), setx_at (by simpa using hj)]
  rfl
def Out (a b : Nat) (l l' : List Spot) : Prop := l'.Perm l ∧ ∀ i, (i < a ∨ b ≤ i) → at' l' i = at' l i
theorem Out.refl {a b : Nat} {l : List Spot} : Out a b l l := ⟨List.Perm.refl _, fun _ _ => rfl⟩
theorem Out.trans {a b : Nat} {l m n : List Spot} (h : Out a b l m) (h2 : Out a b m n) : Out a b l n := ⟨h2.1.trans h.1, fun i hi => (h2.2 i hi).trans (h.2 i hi)⟩
theorem Out.len {a b : Nat} {l m : List Spot} (h : Out a b l m) : m.length = l.length := h.1.length_eq
theorem Out.sw {a b i j : Nat} {l : List Spot} (hi : a ≤ i ∧ i < b) (hj : a ≤ j ∧ j < b) (hb : b ≤ l.length) : Out a b l (sw l i j) := by
  refine ⟨sw_perm (by omega) (by omega), fun k hk => ?_⟩
  rw [at_sw (by omega) (by omega), if_neg (by omega), if_neg (by omega)]
theorem Out.wide {a b a' b' : Nat} {l m : List Spot} (h : Out a b l m) (ha : a' ≤ a) (hb : b ≤ b') : Out a' b' l m := ⟨h.1, fun i hi => h.2 i (by omega)⟩
def Srt (a b : Nat) (l : List Spot) : Prop := ∀ i j, a ≤ i → i < j → j < b → ¬ ltS (at' l j) (at' l i)
theorem W_dec {j : Nat} (h : 0 < j) (h2 : j ≤ 1000000) : W ((j : Int) - 1) = ((j - 1 : Nat) : Int) := by
  rw [show (j : Int) - 1 = ((j - 1 : Nat) : Int) by omega]; exact W_of (by omega) (by omega)
theorem f98_in {N a i : Nat} {s1 : Int} {k0 : List Spot → Option (List Spot)} (hN : 10 ≤ N) : ∀ (fu j : Nat) (l : List Spot), j < fu → a ≤ j → j ≤ i → i < l.length → l.length ≤ 1000000 →
    (∀ p q, a ≤ p → p < q → q ≤ i → q ≠ j → ¬ ltS (at' l q) (at' l p)) → ∃ l', Out a (i + 1) l l' ∧ Srt a (i + 1) l' ∧ f98_4 (a : Int) s1 N (i : Int) k0 fu (j : Int) l = k0 l' := by
  intro fu
  induction fu with
  | zero => intro j l h; omega
  | succ fu ih =>
    intro j l hf haj hji hil hl hI
    by_cases e : j = a
    · subst e
      refine ⟨l, Out.refl, fun p q h1 h2 h3 => hI p q h1 h2 (by omega) (by omega), ?_⟩
      conv => lhs; unfold f98_4 f98_4b
      simp
    · obtain ⟨c, hc, hc2⟩ := f91_eq (x := at' l j) (y := at' l (j - 1)) hN
      have hd := W_dec (j := j) (by omega) (by omega)
      by_cases hlt : ltS (at' l j) (at' l (j - 1))
      · obtain ⟨l', h1, h2, h3⟩ := ih (j - 1) (sw l j (j - 1)) (by omega) (by omega) (by omega) (by rw [sw_len]; omega) (by rw [sw_len]; omega) (by
          intro p q h1 h2 h3 h4
          rw [at_sw (by omega) (by omega), at_sw (by omega) (by omega)]
          by_cases q1 : j = q
          · subst q1
            rw [if_neg (by omega), if_pos rfl]
            by_cases p1 : j - 1 = p
            · rw [if_pos p1]; exact ltS_asymm hlt
            · rw [if_neg p1, if_neg (by omega)]
              exact hI p (j - 1) h1 (by omega) (by omega) (by omega)
          · rw [if_neg (by omega), if_neg q1]
            by_cases p1 : j - 1 = p
            · rw [if_pos p1]
              exact hI j q (by omega) (by omega) h3 (by omega)
            · rw [if_neg p1]
              by_cases p2 : j = p
              · rw [if_pos p2]
                exact hI (j - 1) q (by omega) (by omega) h3 (by omega)
              · rw [if_neg p2]
                exact hI p q h1 h2 h3 (by omega))
        refine ⟨l', (Out.sw (by omega) (by omega) (by omega)).trans h1, h2, ?_⟩
        conv => lhs; unfold f98_4 f98_4b
        rw [show decide ((a : Int) < (j : Int)) = true by simp; omega, hd]
        simp only [cond_true, ix_at (show j < l.length by omega), ix_at (show j - 1 < l.length by omega), Option.bind_some, hc, hc2.2 hlt, decide_true]
        have := sw_run (l := l) (i := j) (j := j - 1) (r := fun x => f98_4 (a : Int) s1 N (i : Int) k0 fu ((j - 1 : Nat) : Int) x) (by omega) (by omega)
        simp only [ix_at (show j < l.length by omega), ix_at (show j - 1 < l.length by omega), Option.bind_some] at this
        rw [this]
        exact h3
      · refine ⟨l, Out.refl, fun p q h1 h2 h3 => ?_, ?_⟩
        · by_cases q1 : q = j
          · subst q1
            by_cases p1 : p = q - 1
            · subst p1; exact hlt
            · exact leS_trans (hI p (q - 1) h1 (by omega) (by omega) (by omega)) hlt
          · exact hI p q h1 h2 (by omega) q1
        · conv => lhs; unfold f98_4 f98_4b
          rw [show decide ((a : Int) < (j : Int)) = true by simp; omega, hd]
          simp only [cond_true, ix_at (show j < l.length by omega), ix_at (show j - 1 < l.length by omega), Option.bind_some, hc, show ¬ c < 0 from fun h => hlt (hc2.1 h), decide_false, cond_false]
theorem f98_out {N a b : Nat} (hN : 10 ≤ N) : ∀ (fu i : Nat) (l : List Spot), b - i < fu → a < i → i ≤ b → b < N → b ≤ l.length → l.length ≤ 1000000 → Srt a i l →
    ∃ l', Out a b l l' ∧ Srt a b l' ∧ f98_1 (a : Int) (b : Int) N fu (i : Int) l = some l' := by
  intro fu
  induction fu with
  | zero => intro i l h; omega
  | succ fu ih =>
    intro i l hf hai hib hbN hbl hl hS
    by_cases e : i = b
    · subst e
      refine ⟨l, Out.refl, hS, ?_⟩
      conv => lhs; unfold f98_1 f98_1b
      simp
    · obtain ⟨l1, h1, h2, h3⟩ := f98_in (N := N) (a := a) (i := i) (s1 := (b : Int)) (k0 := f98_c2 (a : Int) (b : Int) (i : Int) (f98_1 (a : Int) (b : Int) N fu)) hN N i l (by omega) (by omega) (Nat.le_refl _) (by omega) hl (fun p q h1 h2 h3 h4 => hS p q h1 h2 (by omega))
      obtain ⟨l2, h4, h5, h6⟩ := ih (i + 1) l1 (by omega) (by omega) (by omega) hbN (by rw [h1.len]; exact hbl) (by rw [h1.len]; exact hl) h2
      refine ⟨l2, (h1.wide (Nat.le_refl _) (by omega)).trans h4, h5, ?_⟩
      conv => lhs; unfold f98_1 f98_1b
      rw [show decide ((i : Int) < (b : Int)) = true by simp; omega]
      simp only [cond_true, joinK]
      rw [h3]
      unfold f98_c2
      rw [W_nat (by omega)]
      exact h6
theorem f98_eq {N a b : Nat} {l : List Spot} (hN : 20 ≤ N) (hab : a ≤ b) (hbN : b + 10 < N) (hbl : b ≤ l.length) (hl : l.length ≤ 1000000) : ∃ l', Out a b l l' ∧ Srt a b l' ∧ f98 N (a : Int) (b : Int) l = some l' := by
  obtain ⟨n, rfl⟩ : ∃ n, N = n + 1 := ⟨N - 1, by omega⟩
  show ∃ l', Out a b l l' ∧ Srt a b l' ∧ f98_1 (a : Int) (b : Int) n n (W ((a : Int) + 1)) l = some l'
  rw [W_nat (by omega)]
  by_cases e : a = b
  · subst e
    refine ⟨l, Out.refl, fun p q h1 h2 h3 => by omega, ?_⟩
    obtain ⟨m, rfl⟩ : ∃ m, n = m + 1 := ⟨n - 1, by omega⟩
    conv => lhs; unfold f98_1 f98_1b
    rw [show decide (((a + 1 : Nat) : Int) < (a : Int)) = false by simp; omega]; rfl
  · exact f98_out (by omega) n (a + 1) l (by omega) (by omega) (by omega) (by omega) hbl hl (fun p q h1 h2 h3 => by omega)
end Go.Vc
namespace Go.Vc
set_option linter.unusedVariables false
set_option linter.unnecessarySimpa false
set_option linter.unusedSimpArgs false
set_option linter.unusedSimpArgs false
theorem f102_in {a b : Nat} : ∀ (fu i j : Nat) (l : List Spot), j - i < fu → a ≤ i → i ≤ j + 1 → j < b → b ≤ l.length → l.length ≤ 1000000 → ∃ l', Out a b l l' ∧ f102_2 fu (i : Int) (j : Int) l = some l' := by
  intro fu
  induction fu with
  | zero => intro i j l h; omega
  | succ fu ih =>
    intro i j l hf hai hij hjb hbl hl
    by_cases e : i < j
    · obtain ⟨l', h1, h2⟩ := ih (i + 1) (j - 1) (sw l i j) (by omega) (by omega) (by omega) (by omega) (by rw [sw_len]; omega) (by rw [sw_len]; omega)
      refine ⟨l', (Out.sw (by omega) (by omega) hbl).trans h1, ?_⟩
      conv => lhs; unfold f102_2 f102_2b
      rw [show decide ((i : Int) < (j : Int)) = true by simp; omega, W_nat (by omega), W_dec (by omega) (by omega)]
      simp only [cond_true]
      rw [sw_run (r := fun x => f102_2 fu ((i + 1 : Nat) : Int) ((j - 1 : Nat) : Int) x) (by omega) (by omega)]
      exact h2
    · refine ⟨l, Out.refl, ?_⟩
      conv => lhs; unfold f102_2 f102_2b
      rw [show decide ((i : Int) < (j : Int)) = false by simp; omega]; rfl
theorem f102_eq {N a b : Nat} {l : List Spot} (hN : 20 ≤ N) (hab : a < b) (hbN : b + 10 < N) (hbl : b ≤ l.length) (hl : l.length ≤ 1000000) : ∃ l', Out a b l l' ∧ f102 N (a : Int) (b : Int) l = some l' := by
  obtain ⟨n, rfl⟩ : ∃ n, N = n + 1 := ⟨N - 1, by omega⟩
  show ∃ l', Out a b l l' ∧ f102_2 n (a : Int) (W ((b : Int) - 1)) l = some l'
  rw [W_dec (by omega) (by omega)]
  exact f102_in n a (b - 1) l (by omega) (Nat.le_refl _) (by omega) (by omega) hbl hl
def Bt (a b : Nat) (x : Int) : Prop := (a : Int) ≤ x ∧ x < (b : Int)
theorem ix_bt {l : List Spot} {a b : Nat} {x : Int} (h : Bt a b x) (hb : b ≤ l.length) : ix l x = some (at' l x.toNat) := by
  obtain ⟨h1, h2⟩ := h
  have := ix_at (l := l) (i := x.toNat) (by omega)
  rwa [show ((x.toNat : Nat) : Int) = x by omega] at this
theorem f114_eq {N a b : Nat} {x y c : Int} {l : List Spot} (hN : 20 ≤ N) (hx : Bt a b x) (hy : Bt a b y) (hb : b ≤ l.length) (hc : 0 ≤ c ∧ c ≤ 1000) : ∃ x' y' c', f114 N x y l c = some (x', y', c') ∧ Bt a b x' ∧ Bt a b y' ∧ 0 ≤ c' ∧ c' ≤ c + 1 := by
  obtain ⟨n, rfl⟩ : ∃ n, N = n + 1 := ⟨N - 1, by omega⟩
  show ∃ x' y' c', f114b (f114 n) n x y l c = some (x', y', c') ∧ _
  unfold f114b
  rw [ix_bt hy hb, ix_bt hx hb]
  obtain ⟨d, hd, hd2⟩ := f91_eq (N := n) (x := at' l y.toNat) (y := at' l x.toNat) (by omega)
  simp only [Option.bind_some, hd]
  have hw : W (c + 1) = c + 1 := W_of (by omega) (by omega)
  by_cases e : d < 0
  · exact ⟨y, x, c + 1, by simp [e, hw], hy, hx, by omega, by omega⟩
  · exact ⟨x, y, c, by simp [e], hx, hy, by omega, by omega⟩
theorem f113_eq {N a b : Nat} {x y z c : Int} {l : List Spot} (hN : 30 ≤ N) (hx : Bt a b x) (hy : Bt a b y) (hz : Bt a b z) (hb : b ≤ l.length) (hc : 0 ≤ c ∧ c ≤ 900) : ∃ y' c', f113 N x y z l c = some (y', c') ∧ Bt a b y' ∧ 0 ≤ c' ∧ c' ≤ c + 3 := by
  obtain ⟨n, rfl⟩ : ∃ n, N = n + 1 := ⟨N - 1, by omega⟩
  show ∃ y' c', f113b (f113 n) n x y z l c = some (y', c') ∧ _
  unfold f113b
  obtain ⟨a1, b1, c1, e1, p1, q1, r1, s1⟩ := f114_eq (N := n) (c := c) (by omega) hx hy hb (by omega)
  obtain ⟨a2, b2, c2, e2, p2, q2, r2, s2⟩ := f114_eq (N := n) (c := c1) (by omega) q1 hz hb (by omega)
  obtain ⟨a3, b3, c3, e3, p3, q3, r3, s3⟩ := f114_eq (N := n) (c := c2) (by omega) p1 p2 hb (by omega)
  rw [e1]; simp only [Option.bind_some]
  rw [e2]; simp only [Option.bind_some]
  rw [e3]; simp only [Option.bind_some]
  exact ⟨b3, c3, rfl, q3, by omega, by omega⟩
end Go.Vc
namespace Go.Vc
set_option linter.unusedVariables false
set_option linter.unnecessarySimpa false
set_option linter.unusedSimpArgs false
set_option linter.unusedSimpArgs false
theorem f112_eq {N a b : Nat} {x c : Int} {l : List Spot} (hN : 40 ≤ N) (hx : Bt a b (x - 1)) (hx2 : Bt a b (x + 1)) (hb : b ≤ l.length) (hl : l.length ≤ 1000000) (hc : 0 ≤ c ∧ c ≤ 900) : ∃ y c', f112 N x l c = some (y, c') ∧ Bt a b y ∧ 0 ≤ c' ∧ c' ≤ c + 3 := by
  obtain ⟨n, rfl⟩ : ∃ n, N = n + 1 := ⟨N - 1, by omega⟩
  show ∃ y c', f112b (f112 n) n x l c = some (y, c') ∧ _
  unfold f112b
  have h1 : W (x - 1) = x - 1 := W_of (by have := hx.1; have := hx.2; omega) (by have := hx.1; have := hx.2; omega)
  have h2 : W (x + 1) = x + 1 := W_of (by have := hx.1; have := hx.2; omega) (by have := hx2.1; have := hx2.2; omega)
  rw [h1, h2]
  obtain ⟨y, c', e1, e2, e3, e4⟩ := f113_eq (N := n) (c := c) (by omega) hx (show Bt a b x from ⟨by have := hx.1; omega, by have := hx2.2; omega⟩) hx2 hb hc
  rw [e1]
  exact ⟨y, c', rfl, e2, e3, e4⟩
theorem Wi {n : Int} (h : -1000000000 ≤ n) (h' : n ≤ 1000000000) : W n = n := W_of (by omega) (by omega)
theorem f101_eq {N a b : Nat} {l : List Spot} (hN : 50 ≤ N) (hab : a + 8 ≤ b) (hb : b ≤ l.length) (hl : l.length ≤ 1000000) : ∃ y h, f101 N (a : Int) (b : Int) l = some (y, h) ∧ Bt a b y := by
  obtain ⟨n, rfl⟩ : ∃ n, N = n + 1 := ⟨N - 1, by omega⟩
  show ∃ y h, f101b (f101 n) n (a : Int) (b : Int) l = some (y, h) ∧ _
  unfold f101b
  simp only [joinK]
  obtain ⟨q, hq⟩ : ∃ q, q = (b - a) / 4 := ⟨_, rfl⟩
  have hw0 : W ((b : Int) - (a : Int)) = ((b - a : Nat) : Int) := by rw [Wi (by omega) (by omega)]; omega
  have hw1 : W (Int.tdiv (((b - a : Nat)) : Int) 4) = (q : Int) := by
    have := tdiv_nat (b - a) 4
    rw [show ((4 : Nat) : Int) = 4 from rfl] at this
    rw [this, ← hq]; exact Wi (by omega) (by omega)
  have m1 : W ((q : Int) * 1) = (q : Int) := by rw [Int.mul_one]; exact Wi (by omega) (by omega)
  have m2 : W ((q : Int) * 2) = (q : Int) * 2 := Wi (by omega) (by omega)
  have m3 : W ((q : Int) * 3) = (q : Int) * 3 := Wi (by omega) (by omega)
  have p1 : W ((a : Int) + (q : Int)) = (a : Int) + (q : Int) := Wi (by omega) (by omega)
  have p2 : W ((a : Int) + (q : Int) * 2) = (a : Int) + (q : Int) * 2 := Wi (by omega) (by omega)
  have p3 : W ((a : Int) + (q : Int) * 3) = (a : Int) + (q : Int) * 3 := Wi (by omega) (by omega)
  have hk : ∀ (y h : Int), Bt a b y → ∃ y' h', f101_c12 l y h = some (y', h') ∧ Bt a b y' := by
    intro y h hy
    unfold f101_c12
    by_cases e : h = 0
    · exact ⟨y, 1, by simp [e], hy⟩
    · by_cases e2 : h = 12
      · exact ⟨y, 2, by simp [e, e2], hy⟩
      · exact ⟨y, 0, by simp [e, e2], hy⟩
  simp only [hw0, hw1, m1, m2, m3, p1, p2, p3, show (8 : Int) ≤ ((b - a : Nat) : Int) by omega, decide_true, cond_true]
  have bt : ∀ x : Int, (a : Int) ≤ x → x < (b : Int) → Bt a b x := fun x h1 h2 => ⟨h1, h2⟩
  by_cases e : (50 : Int) ≤ ((b - a : Nat) : Int)
  · simp only [e, decide_true, cond_true]
    obtain ⟨y1, c1, e1, b1, l1, u1⟩ := f112_eq (N := n) (x := (a : Int) + (q : Int)) (c := 0) (by omega) (bt _ (by omega) (by omega)) (bt _ (by omega) (by omega)) hb hl (by omega)
    rw [e1]; simp only [Option.bind_some]
    obtain ⟨y2, c2, e2, b2, l2, u2⟩ := f112_eq (N := n) (x := (a : Int) + (q : Int) * 2) (c := c1) (by omega) (bt _ (by omega) (by omega)) (bt _ (by omega) (by omega)) hb hl (by omega)
    rw [e2]; simp only [Option.bind_some]
    obtain ⟨y3, c3, e3, b3, l3, u3⟩ := f112_eq (N := n) (x := (a : Int) + (q : Int) * 3) (c := c2) (by omega) (bt _ (by omega) (by omega)) (bt _ (by omega) (by omega)) hb hl (by omega)
    rw [e3]; simp only [Option.bind_some]
    obtain ⟨y4, c4, e4, b4, l4, u4⟩ := f113_eq (N := n) (c := c3) (by omega) b1 b2 b3 hb (by omega)
    rw [e4]; simp only [Option.bind_some]
    exact hk y4 c4 b4
  · simp only [e, decide_false, cond_false]
    obtain ⟨y4, c4, e4, b4, l4, u4⟩ := f113_eq (N := n) (x := (a : Int) + (q : Int)) (y := (a : Int) + (q : Int) * 2) (z := (a : Int) + (q : Int) * 3) (c := 0) (by omega) (bt _ (by omega) (by omega)) (bt _ (by omega) (by omega)) (bt _ (by omega) (by omega)) hb (by omega)
    rw [e4]; simp only [Option.bind_some]
    exact hk y4 c4 b4
end Go.Vc
namespace Go.Vc
set_option linter.unusedVariables false
set_option linter.unnecessarySimpa false
set_option linter.unusedSimpArgs false
set_option linter.unusedSimpArgs false
def okPow (m : Nat) : Bool := match f110 0 (m : Int) with
  | some p => decide ((m : Int) ≤ p ∧ p ≤ 2 * m ∧ 1 ≤ p)
  | none => false
def okLen (m : Nat) : Bool := match f96 0 (m : Int) with
  | some p => decide (0 ≤ p ∧ p ≤ 10)
  | none => false
theorem okPow_all : ((List.range 600).all fun m => Nat.blt m 1 || okPow m) = true := by kernel_rfl
theorem okLen_all : ((List.range 600).all fun m => okLen m) = true := by kernel_rfl
theorem f110_eq {N m : Nat} (h1 : 1 ≤ m) (h : m < 600) : ∃ p : Int, f110 N (m : Int) = some p ∧ (m : Int) ≤ p ∧ p ≤ 2 * m ∧ 1 ≤ p := by
  have := List.all_eq_true.1 okPow_all m (List.mem_range.2 h)
  rw [show Nat.blt m 1 = false by cases m with
    | zero => omega
    | succ m => rfl, Bool.false_or] at this
  unfold okPow at this
  have e : f110 N (m : Int) = f110 0 (m : Int) := rfl
  rw [e]
  cases hx : f110 0 (m : Int) with
  | none => rw [hx] at this; exact absurd this (by simp)
  | some p =>
    rw [hx] at this
    exact ⟨p, rfl, of_decide_eq_true this⟩
theorem f96_eq {N m : Nat} (h : m < 600) : ∃ p : Int, f96 N (m : Int) = some p ∧ 0 ≤ p ∧ p ≤ 10 := by
  have := List.all_eq_true.1 okLen_all m (List.mem_range.2 h)
  unfold okLen at this
  have e : f96 N (m : Int) = f96 0 (m : Int) := rfl
  rw [e]
  cases hx : f96 0 (m : Int) with
  | none => rw [hx] at this; exact absurd this (by simp)
  | some p =>
    rw [hx] at this
    exact ⟨p, rfl, of_decide_eq_true this⟩
theorem and_bv {w : Nat} (x y : BitVec w) : (x &&& y).toNat ≤ y.toNat := by
  rw [BitVec.toNat_and]; exact Nat.and_le_right
theorem wrap_u64 {q : Nat} (h : q ≤ 100000) : IntKind.u64.wrap (q : Int) = (q : Int) := by
  simp only [IntKind.wrap, IntKind.signed, IntKind.bits]
  simp
  omega
theorem and_le {x y : Int} (h0 : 0 ≤ y) (h1 : y ≤ 100000) : 0 ≤ bitsI .and .u64 x y ∧ bitsI .and .u64 x y ≤ y := by
  obtain ⟨n, rfl⟩ : ∃ n : Nat, y = (n : Int) := ⟨y.toNat, by omega⟩
  have e1 : (BitVec.ofInt IntKind.u64.bits (n : Int)).toNat = n := by
    show (BitVec.ofInt 64 (n : Int)).toNat = n
    rw [BitVec.toNat_ofInt]; omega
  have e2 := and_bv (BitVec.ofInt IntKind.u64.bits x) (BitVec.ofInt IntKind.u64.bits (n : Int))
  rw [e1] at e2
  unfold bitsI
  simp only
  rw [wrap_u64 (by omega)]
  omega
end Go.Vc
namespace Go.Vc
set_option linter.unusedVariables false
set_option linter.unnecessarySimpa false
set_option linter.unusedSimpArgs false
set_option linter.unusedSimpArgs false
theorem pick {Z L : Int} {k0 : Int → Option (List Spot)} {P : List Spot → Prop} (hL : 0 ≤ L ∧ L ≤ 1000) (hZ : 0 ≤ Z ∧ Z ≤ 2 * L - 1) (h : ∀ v, 0 ≤ v → v < L → ∃ l', P l' ∧ k0 v = some l') :
    ∃ l', P l' ∧ (bif decide (L ≤ W Z) then k0 (W (W Z - L)) else k0 (W Z)) = some l' := by
  rw [Wi (n := Z) (by omega) (by omega), Wi (n := Z - L) (by omega) (by omega)]
  by_cases e : L ≤ Z
  · simp only [e, decide_true, cond_true]; exact h _ (by omega) (by omega)
  · simp only [e, decide_false, cond_false]; exact h _ (by omega) (by omega)
theorem f100_in {a b idx : Nat} {p : Int} (hab : a + 8 ≤ b) (hi : idx = a + (b - a) / 4 * 2) (hp : ((b - a : Nat) : Int) ≤ p ∧ p ≤ 2 * ((b - a : Nat) : Int) ∧ 1 ≤ p) (hba : b - a ≤ 500) :
    ∀ (fu v : Nat) (l : List Spot) (rnd : Int), idx + 2 - v < fu → a ≤ v → v ≤ idx + 2 → b ≤ l.length → l.length ≤ 1000000 → ∃ l', Out a b l l' ∧ f100_5 (a : Int) (b : Int) p fu (v : Int) l rnd = some l' := by
  have hw0 : W ((b : Int) - (a : Int)) = ((b - a : Nat) : Int) := by rw [Wi (by omega) (by omega)]; omega
  intro fu
  induction fu with
  | zero => intro v l rnd h; omega
  | succ fu ih =>
    intro v l rnd hf hav hvi hbl hl
    have hw0 : W ((b : Int) - (a : Int)) = ((b - a : Nat) : Int) := W_of (by omega) (by omega) |>.trans (by omega)
    have hw1 : W (Int.tdiv (((b - a : Nat)) : Int) 4) = (((b - a) / 4 : Nat) : Int) := by
      have := tdiv_nat (b - a) 4
      rw [show ((4 : Nat) : Int) = 4 from rfl] at this
      rw [this]; exact Wi (by omega) (by omega)
    have m2 : W ((((b - a) / 4 : Nat) : Int) * 2) = (((b - a) / 4 * 2 : Nat) : Int) := by rw [Wi (by omega) (by omega)]; omega
    have p2 : W ((a : Int) + (((b - a) / 4 * 2 : Nat) : Int)) = (idx : Int) := W_of (by omega) (by omega) |>.trans (by omega)
    have p3 : W ((idx : Int) + 1) = ((idx + 1 : Nat) : Int) := W_nat (by omega)
    have hx : Wk .u64 (p - 1) = p - 1 := by
      obtain ⟨n, hn⟩ : ∃ n : Nat, p - 1 = (n : Int) := ⟨(p - 1).toNat, by omega⟩
      rw [hn]
      unfold Wk
      cases inB .u64 (n : Int) with
      | true => rfl
      | false => exact wrap_u64 (by omega)
    unfold f100_5 f100_5b
    simp only [hw0, hw1, m2, p2, p3, hx, joinK]
    by_cases e : v ≤ idx + 1
    · simp only [show (v : Int) ≤ ((idx + 1 : Nat) : Int) by omega, decide_true, cond_true]
      refine pick (P := fun l' => Out a b l l') (by omega) ?_ ?_
      · have := and_le (x := bitsI .xor .u64 (bitsI .xor .u64 (bitsI .xor .u64 rnd (Wk .u64 (rnd * 2 ^ (min (Int.toNat (13 : Int)) 64)))) (Int.fdiv (bitsI .xor .u64 rnd (Wk .u64 (rnd * 2 ^ (min (Int.toNat (13 : Int)) 64)))) (2 ^ (min (Int.toNat (7 : Int)) 64)))) (Wk .u64 ((bitsI .xor .u64 (bitsI .xor .u64 rnd (Wk .u64 (rnd * 2 ^ (min (Int.toNat (13 : Int)) 64)))) (Int.fdiv (bitsI .xor .u64 rnd (Wk .u64 (rnd * 2 ^ (min (Int.toNat (13 : Int)) 64)))) (2 ^ (min (Int.toNat (7 : Int)) 64)))) * 2 ^ (min (Int.toNat (17 : Int)) 64)))) (y := p - 1) (by omega) (by omega)
        omega
      · intro w hw hw2
        obtain ⟨u, rfl⟩ : ∃ u : Nat, w = (u : Int) := ⟨w.toNat, by omega⟩
        unfold f100_c10
        have hau : W ((a : Int) + (u : Int)) = ((a + u : Nat) : Int) := W_of (by omega) (by omega) |>.trans (by omega)
        have hvb : v < b := by omega
        simp only [hau]
        rw [W_nat (by omega), sw_run (by omega) (by omega)]
        obtain ⟨l', h1, h2⟩ := ih (v + 1) (sw l v (a + u)) _ (by omega) (by omega) (by omega) (by rw [sw_len]; omega) (by rw [sw_len]; omega)
        exact ⟨l', (Out.sw (by omega) (by omega) hbl).trans h1, h2⟩
    · simp only [show ¬ (v : Int) ≤ ((idx + 1 : Nat) : Int) by omega, decide_false, cond_false]
      exact ⟨l, Out.refl, rfl⟩
theorem f100_eq {N a b : Nat} {l : List Spot} (hN : 50 ≤ N) (hab : a + 8 ≤ b) (hba : b - a ≤ 500) (hbN : b + 20 < N) (hbl : b ≤ l.length) (hl : l.length ≤ 1000000) : ∃ l', Out a b l l' ∧ f100 N (a : Int) (b : Int) l = some l' := by
  obtain ⟨n, rfl⟩ : ∃ n, N = n + 1 := ⟨N - 1, by omega⟩
  show ∃ l', Out a b l l' ∧ f100b (f100 n) n (a : Int) (b : Int) l = some l'
  have hw0 : W ((b : Int) - (a : Int)) = ((b - a : Nat) : Int) := W_of (by omega) (by omega) |>.trans (by omega)
  have hw1 : W (Int.tdiv (((b - a : Nat)) : Int) 4) = (((b - a) / 4 : Nat) : Int) := by
    have := tdiv_nat (b - a) 4
    rw [show ((4 : Nat) : Int) = 4 from rfl] at this
    rw [this]; exact Wi (by omega) (by omega)
  have m2 : W ((((b - a) / 4 : Nat) : Int) * 2) = (((b - a) / 4 * 2 : Nat) : Int) := by rw [Wi (by omega) (by omega)]; omega
  have p2 : W ((a : Int) + (((b - a) / 4 * 2 : Nat) : Int)) = ((a + (b - a) / 4 * 2 : Nat) : Int) := W_of (by omega) (by omega) |>.trans (by omega)
  unfold f100b
  obtain ⟨p, e1, e2, e3, e4⟩ := f110_eq (N := n) (m := b - a) (by omega) (by omega)
  rw [hw0, e1]
  simp only [hw1, m2, p2, show (8 : Int) ≤ ((b - a : Nat) : Int) by omega, decide_true, cond_true, Option.bind_some]
  rw [W_dec (by omega) (by omega)]
  exact f100_in (idx := a + (b - a) / 4 * 2) hab rfl ⟨e2, e3, e4⟩ hba n (a + (b - a) / 4 * 2 - 1) l _ (by omega) (by omega) (by omega) hbl hl
end Go.Vc
namespace Go.Vc
set_option linter.unusedVariables false
set_option linter.unnecessarySimpa false
set_option linter.unusedSimpArgs false
set_option linter.unusedSimpArgs false
theorem loop_down {β : Type} {F : Nat → Int → Option β} {k : Nat → Option β} {p : Nat → Prop} (m top : Nat) (hm : p m)
    (hs : ∀ n i, m < i → i ≤ top → ¬ p i → F (n + 1) (i : Int) = F n ((i - 1 : Nat) : Int)) (he : ∀ n i, m ≤ i → i ≤ top → p i → F (n + 1) (i : Int) = k i) :
    ∀ n i, m ≤ i → i ≤ top → i - m < n → ∃ j, m ≤ j ∧ j ≤ i ∧ p j ∧ (∀ q, j < q → q ≤ i → ¬ p q) ∧ F n (i : Int) = k j := by
  intro n
  induction n with
  | zero => intro i _ _ h; omega
  | succ n ih =>
    intro i hi ht hn
    by_cases h : p i
    · exact ⟨i, hi, Nat.le_refl _, h, fun q h1 h2 => by omega, he n i hi ht h⟩
    · have : i ≠ m := fun hh => h (hh ▸ hm)
      obtain ⟨j, h1, h2, h3, h4, h5⟩ := ih (i - 1) (by omega) (by omega) (by omega)
      refine ⟨j, h1, by omega, h3, fun q h6 h7 => ?_, (hs n i (by omega) ht h).trans h5⟩
      by_cases hq : q = i
      · subst hq; exact h
      · exact h4 q h6 (by omega)
def Part (a b m : Nat) (l l' : List Spot) : Prop := Out a b l l' ∧ (a ≤ m ∧ m < b) ∧ (∀ k, a ≤ k → k < m → ltS (at' l' k) (at' l' m)) ∧ ∀ k, m < k → k < b → ¬ ltS (at' l' k) (at' l' m)
theorem part_end {a b i j : Nat} {l : List Spot} (hai : a + 1 ≤ i) (hij : i = j + 1) (hjb : j < b) (hbl : b ≤ l.length) (hlo : ∀ k, a < k → k < i → ltS (at' l k) (at' l a)) (hhi : ∀ k, j < k → k < b → ¬ ltS (at' l k) (at' l a)) : Part a b j l (sw l j a) := by
  have hm : at' (sw l j a) j = at' l a := by
    rw [at_sw (by omega) (by omega)]
    by_cases e : a = j
    · rw [if_pos e, e]
    · rw [if_neg e, if_pos rfl]
  refine ⟨Out.sw (by omega) (by omega) hbl, by omega, fun k h1 h2 => ?_, fun k h1 h2 => ?_⟩
  · rw [hm, at_sw (by omega) (by omega)]
    by_cases e : a = k
    · rw [if_pos e]; exact hlo j (by omega) (by omega)
    · rw [if_neg e, if_neg (by omega)]; exact hlo k (by omega) (by omega)
  · rw [hm, at_sw (by omega) (by omega), if_neg (by omega), if_neg (by omega)]
    exact hhi k h1 h2
theorem f105_up {N a i j : Nat} {l : List Spot} {k2 : Int → Option (Int × Bool × List Spot)} (hN : 10 ≤ N) (hij : i ≤ j + 1) (hjl : j < l.length) (hal : a < l.length) (hl : l.length ≤ 1000000) {fu : Nat} (hf : j + 1 < fu) :
    ∃ i', i ≤ i' ∧ i' ≤ j + 1 ∧ (∀ k, i ≤ k → k < i' → ltS (at' l k) (at' l a)) ∧ (i' ≤ j → ¬ ltS (at' l i') (at' l a)) ∧ f105_13_1 (a : Int) N (j : Int) l k2 fu (i : Int) = k2 (i' : Int) := by
  obtain ⟨i', h1, h2, h3, h4, h5⟩ := loop_find (F := f105_13_1 (a : Int) N (j : Int) l k2) (k := fun i => k2 ((i : Nat) : Int)) (p := fun i => ¬ (i ≤ j ∧ ltS (at' l i) (at' l a))) (j + 1) (by omega) (by
    intro n i hi hp
    have hp := Classical.not_not.1 hp
    conv => lhs; unfold f105_13_1 f105_13_1b
    obtain ⟨c, hc, hc2⟩ := f91_eq (x := at' l i) (y := at' l a) hN
    simp only [show (i : Int) ≤ (j : Int) by omega, decide_true, cond_true, ix_at (show i < l.length by omega), ix_at hal, Option.bind_some, hc, hc2.2 hp.2]
    rw [W_nat (by omega)]) (by
    intro n i hi hp
    conv => lhs; unfold f105_13_1 f105_13_1b
    by_cases e : i ≤ j
    · obtain ⟨c, hc, hc2⟩ := f91_eq (x := at' l i) (y := at' l a) hN
      simp only [show (i : Int) ≤ (j : Int) by omega, decide_true, cond_true, ix_at (show i < l.length by omega), ix_at hal, Option.bind_some, hc, show ¬ c < 0 from fun h => hp ⟨e, hc2.1 h⟩, decide_false, cond_false]
    · simp only [show ¬ (i : Int) ≤ (j : Int) by omega, decide_false, cond_false]) fu i hij (by omega)
  exact ⟨i', h1, h2, fun k hk1 hk2 => (Classical.not_not.1 (h4 k hk1 hk2)).2, fun hle hlt => h3 ⟨hle, hlt⟩, h5⟩
theorem f105_dn {N a i j : Nat} {l : List Spot} {k1 : Int → Option (Int × Bool × List Spot)} (hN : 10 ≤ N) (hi : 1 ≤ i) (hij : i ≤ j + 1) (hjl : j < l.length) (hal : a < l.length) (hl : l.length ≤ 1000000) {fu : Nat} (hf : j + 1 < fu) :
    ∃ j', j' ≤ j ∧ i ≤ j' + 1 ∧ (∀ k, j' < k → k ≤ j → ¬ ltS (at' l k) (at' l a)) ∧ (i ≤ j' → ltS (at' l j') (at' l a)) ∧ f105_15 (a : Int) N l (i : Int) k1 fu (j : Int) = k1 (j' : Int) := by
  obtain ⟨j', h1, h2, h3, h4, h5⟩ := loop_down (F := f105_15 (a : Int) N l (i : Int) k1) (k := fun i => k1 ((i : Nat) : Int)) (p := fun j => ¬ (i ≤ j ∧ ¬ ltS (at' l j) (at' l a))) (i - 1) j (by omega) (by
    intro n q hq hqj hp
    have hp := Classical.not_not.1 hp
    conv => lhs; unfold f105_15 f105_15b
    obtain ⟨c, hc, hc2⟩ := f91_eq (x := at' l q) (y := at' l a) hN
    simp only [show (i : Int) ≤ (q : Int) by omega, decide_true, cond_true, ix_at (show q < l.length by omega), ix_at hal, Option.bind_some, hc, show ¬ c < 0 from fun h => hp.2 (hc2.1 h), decide_false, Bool.not_false]
    rw [W_dec (by omega) (by omega)]) (by
    intro n q hq hqj hp
    conv => lhs; unfold f105_15 f105_15b
    by_cases e : i ≤ q
    · obtain ⟨c, hc, hc2⟩ := f91_eq (x := at' l q) (y := at' l a) hN
      have hlt : ltS (at' l q) (at' l a) := Classical.byContradiction fun h => hp ⟨e, h⟩
      simp only [show (i : Int) ≤ (q : Int) by omega, decide_true, cond_true, ix_at (show q < l.length by omega), ix_at hal, Option.bind_some, hc, hc2.2 hlt, Bool.not_true, cond_false]
    · simp only [show ¬ (i : Int) ≤ (q : Int) by omega, decide_false, cond_false]) fu j (by omega) (Nat.le_refl _) (by omega)
  exact ⟨j', h2, by omega, fun k hk1 hk2 => (Classical.not_not.1 (h4 k hk1 hk2)).2, fun hle => Classical.byContradiction fun h => h3 ⟨hle, h⟩, h5⟩
theorem f105_main {N a b : Nat} (hN : 10 ≤ N) (hbN : b + 10 < N) : ∀ (fu i j : Nat) (l : List Spot), j + 1 - i < fu → a + 1 ≤ i → i ≤ j + 1 → j < b → b ≤ l.length → l.length ≤ 1000000 →
    (∀ k, a < k → k < i → ltS (at' l k) (at' l a)) → (∀ k, j < k → k < b → ¬ ltS (at' l k) (at' l a)) → ∃ m l', Part a b m l l' ∧ f105_13 (a : Int) N (f105_c21 (a : Int)) fu (i : Int) (j : Int) l = some ((m : Int), false, l') := by
  intro fu
  induction fu with
  | zero => intro i j l h; omega
  | succ fu ih =>
    intro i j l hf hai hij hjb hbl hl hlo hhi
    obtain ⟨i', u1, u2, u3, u4, u5⟩ := f105_up (N := N) (a := a) (i := i) (j := j) (l := l) (k2 := f105_c15 (a : Int) N (f105_c21 (a : Int)) (j : Int) l (f105_13 (a : Int) N (f105_c21 (a : Int)) fu)) hN hij (by omega) (by omega) hl (fu := N) (by omega)
    obtain ⟨j', d1, d2, d3, d4, d5⟩ := f105_dn (N := N) (a := a) (i := i') (j := j) (l := l) (k1 := f105_c17 (a : Int) (f105_c21 (a : Int)) l (f105_13 (a : Int) N (f105_c21 (a : Int)) fu) (i' : Int)) hN (by omega) (by omega) (by omega) (by omega) hl (fu := N) (by omega)
    have hlo' : ∀ k, a < k → k < i' → ltS (at' l k) (at' l a) := fun k h1 h2 => by
      by_cases e : k < i
      · exact hlo k h1 e
      · exact u3 k (by omega) h2
    have hhi' : ∀ k, j' < k → k < b → ¬ ltS (at' l k) (at' l a) := fun k h1 h2 => by
      by_cases e : j < k
      · exact hhi k e h2
      · exact d3 k h1 (by omega)
    unfold f105_13 f105_13b
    simp only [joinK]
    rw [u5]
    unfold f105_c15
    simp only [joinK]
    rw [d5]
    unfold f105_c17
    by_cases e : j' < i'
    · have hji : i' = j' + 1 := by omega
      refine ⟨j', sw l j' a, part_end (i := i') (by omega) hji (by omega) hbl hlo' hhi', ?_⟩
      simp only [show (j' : Int) < (i' : Int) by omega, decide_true, cond_true]
      unfold f105_c21
      rw [sw_run (r := fun x => some ((j' : Int), false, x)) (by omega) (by omega)]
    · have hne : i' ≠ j' := fun hh => by
        have h1 := d4 (by omega)
        have h2 := u4 (by omega)
        rw [hh] at h2; exact h2 h1
      simp only [show ¬ (j' : Int) < (i' : Int) by omega, decide_false, cond_false]
      rw [sw_run (by omega) (by omega), W_nat (by omega), W_dec (by omega) (by omega)]
      have ha0 : at' (sw l i' j') a = at' l a := by rw [at_sw (by omega) (by omega), if_neg (by omega), if_neg (by omega)]
      obtain ⟨m, l', h1, h2⟩ := ih (i' + 1) (j' - 1) (sw l i' j') (by omega) (by omega) (by omega) (by omega) (by rw [sw_len]; omega) (by rw [sw_len]; omega) (by
        intro k h1 h2
        rw [ha0, at_sw (by omega) (by omega), if_neg (by omega)]
        by_cases e : i' = k
        · rw [if_pos e]; exact d4 (by omega)
        · rw [if_neg e]; exact hlo' k h1 (by omega)) (by
        intro k h1 h2
        rw [ha0, at_sw (by omega) (by omega)]
        by_cases e : j' = k
        · rw [if_pos e]; exact u4 (by omega)
        · rw [if_neg e, if_neg (by omega)]; exact hhi' k (by omega) h2)
      exact ⟨m, l', ⟨(Out.sw (by omega) (by omega) hbl).trans h1.1, h1.2⟩, h2⟩
theorem f105_up0 {N a i b : Nat} {l : List Spot} {k4 : Int → Option (Int × Bool × List Spot)} (hN : 10 ≤ N) (hi : i ≤ b) (hb : 1 ≤ b) (hbl : b ≤ l.length) (hal : a < l.length) (hl : l.length ≤ 1000000) {fu : Nat} (hf : b + 1 < fu) :
    ∃ i', i ≤ i' ∧ i' ≤ b ∧ (∀ k, i ≤ k → k < i' → ltS (at' l k) (at' l a)) ∧ (i' < b → ¬ ltS (at' l i') (at' l a)) ∧ f105_3 (a : Int) (b : Int) N l k4 fu (i : Int) = k4 (i' : Int) := by
  have hd := W_dec (j := b) (by omega) (by omega)
  obtain ⟨i', h1, h2, h3, h4, h5⟩ := loop_find (F := f105_3 (a : Int) (b : Int) N l k4) (k := fun i => k4 ((i : Nat) : Int)) (p := fun i => ¬ (i < b ∧ ltS (at' l i) (at' l a))) b (by omega) (by
    intro n i hi hp
    have hp := Classical.not_not.1 hp
    conv => lhs; unfold f105_3 f105_3b
    obtain ⟨c, hc, hc2⟩ := f91_eq (x := at' l i) (y := at' l a) hN
    rw [hd]
    simp only [show (i : Int) ≤ ((b - 1 : Nat) : Int) by omega, decide_true, cond_true, ix_at (show i < l.length by omega), ix_at hal, Option.bind_some, hc, hc2.2 hp.2]
    rw [W_nat (by omega)]) (by
    intro n i hi hp
    conv => lhs; unfold f105_3 f105_3b
    rw [hd]
    by_cases e : i < b
    · obtain ⟨c, hc, hc2⟩ := f91_eq (x := at' l i) (y := at' l a) hN
      simp only [show (i : Int) ≤ ((b - 1 : Nat) : Int) by omega, decide_true, cond_true, ix_at (show i < l.length by omega), ix_at hal, Option.bind_some, hc, show ¬ c < 0 from fun h => hp ⟨e, hc2.1 h⟩, decide_false, cond_false]
    · simp only [show ¬ (i : Int) ≤ ((b - 1 : Nat) : Int) by omega, decide_false, cond_false]) fu i hi (by omega)
  exact ⟨i', h1, h2, fun k hk1 hk2 => (Classical.not_not.1 (h4 k hk1 hk2)).2, fun hle hlt => h3 ⟨hle, hlt⟩, h5⟩
theorem f105_dn0 {N a i j : Nat} {l : List Spot} {k1 : Int → Option (Int × Bool × List Spot)} (hN : 10 ≤ N) (hi : 1 ≤ i) (hij : i ≤ j + 1) (hjl : j < l.length) (hal : a < l.length) (hl : l.length ≤ 1000000) {fu : Nat} (hf : j + 1 < fu) :
    ∃ j', j' ≤ j ∧ i ≤ j' + 1 ∧ (∀ k, j' < k → k ≤ j → ¬ ltS (at' l k) (at' l a)) ∧ (i ≤ j' → ltS (at' l j') (at' l a)) ∧ f105_5 (a : Int) N l (i : Int) k1 fu (j : Int) = k1 (j' : Int) := by
  obtain ⟨j', h1, h2, h3, h4, h5⟩ := loop_down (F := f105_5 (a : Int) N l (i : Int) k1) (k := fun i => k1 ((i : Nat) : Int)) (p := fun j => ¬ (i ≤ j ∧ ¬ ltS (at' l j) (at' l a))) (i - 1) j (by omega) (by
    intro n q hq hqj hp
    have hp := Classical.not_not.1 hp
    conv => lhs; unfold f105_5 f105_5b
    obtain ⟨c, hc, hc2⟩ := f91_eq (x := at' l q) (y := at' l a) hN
    simp only [show (i : Int) ≤ (q : Int) by omega, decide_true, cond_true, ix_at (show q < l.length by omega), ix_at hal, Option.bind_some, hc, show ¬ c < 0 from fun h => hp.2 (hc2.1 h), decide_false, Bool.not_false]
    rw [W_dec (by omega) (by omega)]) (by
    intro n q hq hqj hp
    conv => lhs; unfold f105_5 f105_5b
    by_cases e : i ≤ q
    · obtain ⟨c, hc, hc2⟩ := f91_eq (x := at' l q) (y := at' l a) hN
      have hlt : ltS (at' l q) (at' l a) := Classical.byContradiction fun h => hp ⟨e, h⟩
      simp only [show (i : Int) ≤ (q : Int) by omega, decide_true, cond_true, ix_at (show q < l.length by omega), ix_at hal, Option.bind_some, hc, hc2.2 hlt, Bool.not_true, cond_false]
    · simp only [show ¬ (i : Int) ≤ (q : Int) by omega, decide_false, cond_false]) fu j (by omega) (Nat.le_refl _) (by omega)
  exact ⟨j', h2, by omega, fun k hk1 hk2 => (Classical.not_not.1 (h4 k hk1 hk2)).2, fun hle => Classical.byContradiction fun h => h3 ⟨hle, h⟩, h5⟩
theorem f105_eq {N a b x : Nat} {l : List Spot} (hN : 30 ≤ N) (hab : a + 2 ≤ b) (hbN : b + 20 < N) (hx : a ≤ x ∧ x < b) (hbl : b ≤ l.length) (hl : l.length ≤ 1000000) : ∃ m fl l', Part a b m l l' ∧ f105 N (a : Int) (b : Int) (x : Int) l = some ((m : Int), fl, l') := by
  obtain ⟨n, rfl⟩ : ∃ n, N = n + 1 := ⟨N - 1, by omega⟩
  show ∃ m fl l', Part a b m l l' ∧ f105b (f105 n) n (a : Int) (b : Int) (x : Int) l = some ((m : Int), fl, l')
  unfold f105b
  simp only [joinK]
  rw [sw_run (r := fun x6 => f105_3 (a : Int) (b : Int) n x6 (f105_c5 (a : Int) (b : Int) n x6) n (W ((a : Int) + 1))) (by omega) (by omega), W_nat (by omega)]
  have hO : Out a b l (sw l a x) := Out.sw (by omega) (by omega) hbl
  have hlen : (sw l a x).length = l.length := sw_len
  generalize sw l a x = L at hO hlen
  obtain ⟨i, u1, u2, u3, u4, u5⟩ := f105_up0 (N := n) (a := a) (i := a + 1) (b := b) (l := L) (k4 := f105_c5 (a : Int) (b : Int) n L) (by omega) (by omega) (by omega) (by omega) (by omega) (by omega) (fu := n) (by omega)
  rw [u5]
  unfold f105_c5
  simp only [joinK]
  rw [W_dec (by omega) (by omega)]
  obtain ⟨j, d1, d2, d3, d4, d5⟩ := f105_dn0 (N := n) (a := a) (i := i) (j := b - 1) (l := L) (k1 := f105_c7 (a : Int) n L (i : Int)) (by omega) (by omega) (by omega) (by omega) (by omega) (by omega) (fu := n) (by omega)
  rw [d5]
  unfold f105_c7
  by_cases e : j < i
  · have hp := part_end (l := L) (a := a) (b := b) (i := i) (j := j) (by omega) (by omega) (by omega) (by omega) (fun k h1 h2 => u3 k (by omega) h2) (fun k h1 h2 => d3 k h1 (by omega))
    refine ⟨j, true, sw L j a, ⟨hO.trans hp.1, hp.2⟩, ?_⟩
    simp only [show (j : Int) < (i : Int) by omega, decide_true, cond_true]
    rw [sw_run (r := fun x => some ((j : Int), true, x)) (by omega) (by omega)]
  · have hne : i ≠ j := fun hh => by
      have h1 := d4 (by omega)
      have h2 := u4 (by omega)
      rw [hh] at h2; exact h2 h1
    simp only [show ¬ (j : Int) < (i : Int) by omega, decide_false, cond_false, joinK]
    rw [sw_run (r := fun x => f105_13 (a : Int) n (f105_c21 (a : Int)) n (W ((i : Int) + 1)) (W ((j : Int) - 1)) x) (by omega) (by omega), W_nat (by omega), W_dec (by omega) (by omega)]
    have ha0 : at' (sw L i j) a = at' L a := by rw [at_sw (by omega) (by omega), if_neg (by omega), if_neg (by omega)]
    obtain ⟨m, l', h1, h2⟩ := f105_main (N := n) (a := a) (b := b) (by omega) (by omega) n (i + 1) (j - 1) (sw L i j) (by omega) (by omega) (by omega) (by omega) (by rw [sw_len]; omega) (by rw [sw_len]; omega) (by
      intro k h1 h2
      rw [ha0, at_sw (by omega) (by omega), if_neg (by omega)]
      by_cases e : i = k
      · rw [if_pos e]; exact d4 (by omega)
      · rw [if_neg e]; exact u3 k (by omega) (by omega)) (by
      intro k h1 h2
      rw [ha0, at_sw (by omega) (by omega)]
      by_cases e : j = k
      · rw [if_pos e]; exact u4 (by omega)
      · rw [if_neg e, if_neg (by omega)]; exact d3 k (by omega) (by omega))
    exact ⟨m, false, l', ⟨(hO.trans (Out.sw (by omega) (by omega) (by omega))).trans h1.1, h1.2⟩, h2⟩
end Go.Vc
namespace Go.Vc
set_option linter.unusedVariables false
set_option linter.unnecessarySimpa false
set_option linter.unusedSimpArgs false
set_option linter.unusedSimpArgs false
theorem Out.mid {a b : Nat} {l l' : List Spot} (h : Out a b l l') (hab : a ≤ b) (hb : b ≤ l.length) : ((l'.take b).drop a).Perm ((l.take b).drop a) := by
  have hl := h.len
  have e1 : l'.take a = l.take a := by
    refine list_ext (by simp; omega) fun i hi => ?_
    have hi : i < a := by simp at hi; omega
    have := h.2 i (.inl hi)
    simpa [at', List.getD_eq_getElem?_getD, List.getElem?_take, hi] using this
  have e2 : l'.drop b = l.drop b := by
    refine list_ext (by simp; omega) fun i hi => ?_
    have := h.2 (b + i) (.inr (by omega))
    simpa [at', List.getD_eq_getElem?_getD, List.getElem?_drop] using this
  have split : ∀ m : List Spot, m = m.take a ++ ((m.take b).drop a ++ m.drop b) := fun m => by
    have h1 : m.take b = m.take a ++ (m.take b).drop a := by
      have := (List.take_append_drop a (m.take b)).symm
      rw [List.take_take, Nat.min_eq_left hab] at this
      exact this
    rw [← List.append_assoc, ← h1, List.take_append_drop]
  have hp := h.1
  rw [split l', split l, e1, e2] at hp
  exact (List.perm_append_right_iff _).1 ((List.perm_append_left_iff _).1 hp)
theorem Out.from {a b : Nat} {l l' : List Spot} (h : Out a b l l') (hb : b ≤ l.length) {k : Nat} (hk : a ≤ k ∧ k < b) : ∃ k', (a ≤ k' ∧ k' < b) ∧ at' l' k = at' l k' := by
  have hp := h.mid (by omega) hb
  have hl := h.len
  have hm : at' l' k ∈ (l'.take b).drop a := by
    refine List.mem_of_getElem? (i := k - a) ?_
    rw [List.getElem?_drop, show a + (k - a) = k by omega, List.getElem?_take, if_pos hk.2, at_get (by omega)]
  have hm := hp.mem_iff.1 hm
  obtain ⟨i, hi⟩ := List.mem_iff_getElem?.1 hm
  have hi2 := (List.getElem?_eq_some_iff.1 hi).1
  rw [List.length_drop, List.length_take] at hi2
  rw [List.getElem?_drop, List.getElem?_take, if_pos (by omega), at_get (by omega)] at hi
  exact ⟨a + i, ⟨by omega, by omega⟩, (Option.some.inj hi).symm⟩
end Go.Vc

/-
  A library for proofs about Go functions by symbolic evaluation, and plain Lean functions that the walked Go functions compute (written by a program of this claim).
-/
import Derived.Test.YtikifojhjbcfhaaW1
namespace Go.Vc
open Go.Proofs
set_option linter.unusedVariables false
set_option linter.unnecessarySimpa false
set_option linter.unusedSimpArgs false
section
variable {c : Ctx} {p nid : Nat} {a b : Code} {st : St} {K : Ex → St → Prop}
/- f29: tusche/serial.Fixes -/
def f29_c10 (out7 : List Fix) : Option ((List Fix) × Int) :=
 some (out7, (0 : Int))
def Lf29_c10 : Lp ((List Fix)) (Nat) ((List Fix) × Int) := ⟨⟨[7], [90007], [(.slot 7, 90007, 55, 2)], []⟩, fun out7 => [.rs 90007 (List.length out7)], fun out7 => [.row 55 2 (List.map Fix.d out7)], fun out7 => f29_c10 out7, fun _ m0 => [.rs 90007 m0], fun out7 _ => [.row 55 2 (List.map Fix.d out7)], fun out7 => List.length out7, fun _ => rfl, fun _ => rfl⟩
theorem Ef29_c10 {out7} : (Lf29_c10).E out7 = f29_c10 out7 := rfl
def f29_6b (r6 : (List Fix) → Int → Option ((List Fix) × Int)) (a0 : List (List Int)) (a1 : List Int) (N : Nat) (k0 : (List Fix) → Option ((List Fix) × Int)) (out7 : List Fix) (v17 : Int) : Option ((List Fix) × Int) :=
 bif decide (v17 < (List.length a1 : Int)) then ((f65 N a0 a1 v17).bind fun x2 =>
 (app 16 out7 [(Fix.mk v17 x2)]).bind fun x3 =>
 r6 x3 (W (v17 + (1 : Int))))
 else (k0 out7)
def f29_6 (a0 : List (List Int)) (a1 : List Int) (N : Nat) (k0 : (List Fix) → Option ((List Fix) × Int)) : Nat → (List Fix) → Int → Option ((List Fix) × Int)
  | 0, _, _ => none
  | n + 1, out7, v17 => f29_6b (f29_6 a0 a1 N k0 n) a0 a1 N k0 out7 v17
def Lf29_6 (a0 : List (List Int)) (a1 : List Int) (N : Nat) (k0 : (List Fix) → Option ((List Fix) × Int)) : Lp (Nat × (List Fix) × Int) (Nat) ((List Fix) × Int) := ⟨⟨[0, 1, 7, 16, 17], [90007], [(.slot 7, 90007, 55, 2)], []⟩, fun (_, out7, v17) => [.dat (sl_sl_iN a0), .dat (sl_iN a1), .rs 90007 (List.length out7), .dat (iN (List.length a1 : Int)), .dat (iN v17)], fun (_, out7, _) => [.row 55 2 (List.map Fix.d out7)], fun (n, out7, v17) => f29_6 a0 a1 N k0 n out7 v17, fun (_, _, v17) m0 => [.dat (sl_sl_iN a0), .dat (sl_iN a1), .rs 90007 m0, .dat (iN (List.length a1 : Int)), .dat (iN v17)], fun (_, out7, _) _ => [.row 55 2 (List.map Fix.d out7)], fun (_, out7, _) => List.length out7, fun _ => rfl, fun _ => rfl⟩
theorem Ef29_6 {a0 a1 N k0 n out7 v17} : (Lf29_6 a0 a1 N k0).E (n, out7, v17) = f29_6 a0 a1 N k0 n out7 v17 := rfl
def f29 (N : Nat) (a0 : List (List Int)) (a1 : List Int) : Option ((List Fix) × Int) :=
 (f68 N a0 a1).bind fun x1 =>
 bif decide (¬ x1 = (0 : Int)) then (some ([], x1))
 else (joinK f29_c10 fun k0 =>
 f29_6 a0 a1 N k0 N [] (0 : Int))
def G29 (ds : List D) (d : D) : Prop := ∃ (N : Nat) (a0 : List (List Int)) (a1 : List Int) (r : (List Fix) × Int), ds = [sl_sl_iN a0, sl_iN a1] ∧ f29 N a0 a1 = some r ∧ d = .tup [sl_Fix r.1, iN r.2]
theorem G29.step {N : Nat} {a0 : List (List Int)} {a1 : List Int} {ρ : Type} {A : ((List Fix) × Int) → Option ρ} {q : ρ} {ds : List D} {K : D → Prop} (hd : ds = [sl_sl_iN a0, sl_iN a1]) (h : ∀ r, A r = some q → K (.tup [sl_Fix r.1, iN r.2])) (hF : (f29 N a0 a1).bind A = some q) : ∃ d, G29 ds d ∧ K d := by
  obtain ⟨r, hr, hA⟩ := bind_some hF
  exact ⟨_, ⟨N, a0, a1, r, hd, hr, rfl⟩, h r hA⟩
set_option maxRecDepth 20000 in
set_option maxHeartbeats 4000000 in
theorem P29 : PureOK Try.prog 29 G29 := by
  refine pure_of_vc (c := mkCtx tyTree [(68, true, lendPg [[1], [1]] G68), (65, true, lendPg [[1], [1], [0]] G65)]) rfl tyOK (ctx_lend (callable Try.func68 rfl rfl) P68 (ctx_lend (callable Try.func65 rfl rfl) P65 (ctx_nil))) [[2], [0]] 2 Try.func29 rfl rfl (by decide) (by kernel_rfl) ?_
  rintro ds d ⟨N, a0, a1, r, rfl, hF, rfl⟩ hok
  clear hok
  refine ⟨rfl, ?_⟩
  show vc _ _ _ _ ⟨[(0, .dat (sl_sl_iN a0)), (1, .dat (sl_iN a1))], []⟩ _
  unfold f29 at hF
  repeat' (first
    | ((with_reducible first | refine q0 _ _ ?_ | refine q1 _ _ _ _ ?_ | refine q2 _ _ _ ?_); clear Q q0 q1 q2)
    | ((with_reducible first | refine seq_op ?hx (fun Q q0 q1 q2 => ?_)); (case hx => exact rfl); conv => whnf)
    | ((with_reducible refine cond_id ?_); (first | ((refine condKT rfl ?hy ?_); (case hy => first | assumption | exact notT (by assumption) | exact rfl)) | ((refine condKF rfl ?hy ?_); (case hy => first | assumption | exact notF (by assumption) | exact rfl)) | (revert hF; (with_reducible refine condF ?hx ?_ ?_); (case hx => exact rfl); all_goals (intro hc hF))))
    | ((with_reducible refine seq_nil ?_); (first | ((with_reducible refine hR _ ?_); clear R hR) | ((with_reducible refine hL _ ?_); clear L hL)))
    | ((with_reducible first | refine int_step ?_ | refine len_step ?_); conv => whnf)
    | (with_reducible first | refine vc_block ?_ | refine vc_skip ?_ | refine vc_ret ?_ | refine vc_exit ?_ | refine vc_region (fun R hR => ?_) | refine k_seq_ret ?_ | refine k_seq_exit ?_ | refine k_blk ?_ | refine k_blk_ret ?_ | refine k_blk_here ?_ | refine k_loop_ret ?_ | refine k_loop_exit ?_)
    | ((with_reducible refine vc_seqN [10] ?hx ?_); (case hx => exact rfl))
    | (revert hF; (refine Lp.cut0 Lf29_c10 f29_c10 10 rfl rfl ?_ ?_); (intro hF); rotate_left; (rintro out7 hF; dsimp only [Lf29_c10] at hF; unfold f29_c10 at hF); rotate_right)
    | exact Lp.head Ef29_c10 hF _ ⟨_, rfl, rfl, rfl, rfl⟩ (by first | exact rfl | ((try dsimp only [Lf29_c10]); first | assumption | omega | (simp only [List.length_set]; done)))
    | (revert hF; (refine Lp.loop Ef29_6 _ rfl ⟨_, rfl, rfl, rfl, rfl⟩ (by first | exact rfl | ((try dsimp only [Lf29_6]); first | assumption | omega | (simp only [List.length_set]; done))) (fun _ => rfl) ?_); rintro n ⟨out7, v17⟩ hF; dsimp only [Lf29_6, f29_6] at hF; unfold f29_6b at hF)
    | exact Lp.back Ef29_6 hF _ ⟨_, rfl, rfl, rfl, rfl⟩ (by first | exact rfl | ((try dsimp only [Lf29_6]); first | assumption | omega | (simp only [List.length_set]; done)))
    | (revert hF; (with_reducible refine G65.lend ?hx ?_); (case hx => exact rfl); intro v hF; conv => whnf)
    | (revert hF; (with_reducible refine G68.lend ?hx ?_); (case hx => exact rfl); intro v hF; conv => whnf)
    | ((with_reducible first | refine k_blk_out ?hx ?_ | refine vc_condT ?hx ?_); (case hx => exact rfl))
    | ((with_reducible have hG := app_fact hF); clear hF; (first | ((refine app_row hG ?hn ?hs (fun q hF => ?_)); (case hn => first | exact rfl | assumption | omega); (case hs => exact rfl)) | ((refine app_nil (d := Fix.d) hG ?hs (fun q hF => ?_)); (case hs => exact rfl)) | ((refine app_gen (d := Fix.d) hG ?ho ?hn ?hs (fun q hF => ?_)); (case ho => exact rfl); (case hn => exact rfl); (case hs => exact rfl))); clear hG; conv => whnf)
    | ((refine row_all ?hn ?_); (case hn => first | exact rfl | (simp; done) | (simp; omega)); conv => whnf)
    | ((with_reducible refine le_step ?hn ?_); (case hn => first | exact rfl | assumption | omega); conv => whnf)
    | ((refine ⟨?hx, ?_⟩); (case hx => exact ⟨rfl, Nat.le_of_ble_eq_true rfl, rfl⟩); conv => whnf)
    | ((with_reducible refine ex_step ?_); conv => whnf)
    | ((with_reducible refine both_T ?hx ?_); (case hx => first | exact rfl | assumption | exact notT (by assumption)); conv => whnf)
    | ((with_reducible refine both_F ?hx ?_); (case hx => first | exact rfl | assumption | exact notF (by assumption)); conv => whnf)
    | (revert hF; (with_reducible refine ite_step ?_ ?_) <;> (intro hc hF; conv => whnf))
    | ((with_reducible refine vc_condF ?hx ?_); (case hx => exact rfl))
    | (show retD _ _ _ _ _ _; conv => whnf)
    | ((refine ⟨?hx, trivial⟩); (case hx => (cases hF; exact rfl)))
    | ((refine ⟨?hx, ?_⟩); (case hx => decide); conv => whnf)
    | with_reducible refine k_seq ?_
    | (have hF : (none : Option _) = some _ := hF; cases hF))
end
end Go.Vc
namespace Go.Vc
open Go.Proofs
set_option linter.unusedVariables false
set_option linter.unnecessarySimpa false
set_option linter.unusedSimpArgs false
section
variable {c : Ctx} {p nid : Nat} {a b : Code} {st : St} {K : Ex → St → Prop}
/- f31: tusche/serial.Swaps -/
def f31_c13 (out9 : List Int) : Option ((List Int) × Int) :=
 some (out9, (0 : Int))
def Lf31_c13 : Lp ((List Int)) (Nat) ((List Int) × Int) := ⟨⟨[9], [90009], [(.slot 9, 90009, 3, 1)], []⟩, fun out9 => [.rs 90009 (List.length out9)], fun out9 => [.row 3 1 (List.map iN out9)], fun out9 => f31_c13 out9, fun _ m0 => [.rs 90009 m0], fun out9 _ => [.row 3 1 (List.map iN out9)], fun out9 => List.length out9, fun _ => rfl, fun _ => rfl⟩
theorem Ef31_c13 {out9} : (Lf31_c13).E out9 = f31_c13 out9 := rfl
def f31_8b (r8 : (List Int) → Int → (List Int) → Option ((List Int) × Int)) (a0 : List (List Int)) (N : Nat) (b402_0 : List Int) (k0 : (List Int) → Option ((List Int) × Int)) (out9 : List Int) (v23 : Int) (b402_0' : List Int) : Option ((List Int) × Int) :=
 bif decide (v23 < (W ((List.length b402_0 : Int) - (1 : Int)))) then ((ix (b402_0') (W (v23 + (1 : Int)))).bind fun x2 =>
 (ix (b402_0') v23).bind fun x3 =>
 (ix (b402_0') v23).bind fun x4 =>
 (setx (b402_0') v23 x2).bind fun x5 =>
 (ix x5 (W (v23 + (1 : Int)))).bind fun x6 =>
 (setx x5 (W (v23 + (1 : Int))) x3).bind fun x7 =>
 (f59 N a0 (0 : Int) x7).bind fun x8 =>
 (ix x7 (W (v23 + (1 : Int)))).bind fun x9 =>
 (ix x7 v23).bind fun x10 =>
 (ix x7 v23).bind fun x11 =>
 (setx x7 v23 x9).bind fun x12 =>
 (ix x12 (W (v23 + (1 : Int)))).bind fun x13 =>
 (setx x12 (W (v23 + (1 : Int))) x10).bind fun x14 =>
 bif decide (x8 = (0 : Int)) then ((app 8 out9 [v23]).bind fun x15 =>
 r8 x15 (W (v23 + (1 : Int))) x14)
 else (r8 out9 (W (v23 + (1 : Int))) x14))
 else (k0 out9)
def f31_8 (a0 : List (List Int)) (N : Nat) (b402_0 : List Int) (k0 : (List Int) → Option ((List Int) × Int)) : Nat → (List Int) → Int → (List Int) → Option ((List Int) × Int)
  | 0, _, _, _ => none
  | n + 1, out9, v23, b402_0' => f31_8b (f31_8 a0 N b402_0 k0 n) a0 N b402_0 k0 out9 v23 b402_0'
def Lf31_8 (a0 : List (List Int)) (N : Nat) (b402_0 : List Int) (k0 : (List Int) → Option ((List Int) × Int)) : Lp (Nat × (List Int) × Int × (List Int)) (Nat × Nat) ((List Int) × Int) := ⟨⟨[8, 9, 22, 23], [0, 402, 90009, 90520], [(.slot 9, 90009, 3, 1), (.cell 402 0, 90520, 3, 1)], []⟩, fun (_, out9, v23, _) => [.fn 71 [] [.ptr 402 0, .ptr 0 0], .rs 90009 (List.length out9), .dat (iN (W ((List.length b402_0 : Int) - (1 : Int)))), .dat (iN v23)], fun (_, out9, _, b402_0') => [.box [.dat (sl_sl_iN a0)], .box [.rs 90520 (List.length (b402_0'))], .row 3 1 (List.map iN out9), .row 3 1 (List.map iN (b402_0'))], fun (n, out9, v23, b402_0') => f31_8 a0 N b402_0 k0 n out9 v23 b402_0', fun (_, _, v23, _) (m0, _) => [.fn 71 [] [.ptr 402 0, .ptr 0 0], .rs 90009 m0, .dat (iN (W ((List.length b402_0 : Int) - (1 : Int)))), .dat (iN v23)], fun (_, out9, _, b402_0') (_, m1) => [.box [.dat (sl_sl_iN a0)], .box [.rs 90520 m1], .row 3 1 (List.map iN out9), .row 3 1 (List.map iN (b402_0'))], fun (_, out9, _, b402_0') => (List.length out9, List.length (b402_0')), fun _ => rfl, fun _ => rfl⟩
theorem Ef31_8 {a0 N b402_0 k0 n out9 v23 b402_0'} : (Lf31_8 a0 N b402_0 k0).E (n, out9, v23, b402_0') = f31_8 a0 N b402_0 k0 n out9 v23 b402_0' := rfl
def f31_c5 (a0 : List (List Int)) (N : Nat) (b402_0 : List Int) : Option ((List Int) × Int) :=
 joinK f31_c13 fun k0 =>
 f31_8 a0 N b402_0 k0 N [] (0 : Int) b402_0
def Lf31_c5 (a0 : List (List Int)) (N : Nat) : Lp ((List Int)) (Nat) ((List Int) × Int) := ⟨⟨[2, 7], [0, 402, 90500], [(.cell 402 0, 90500, 3, 1)], []⟩, fun _ => [.ptr 0 0, .ptr 402 0], fun b402_0 => [.box [.dat (sl_sl_iN a0)], .box [.rs 90500 (List.length b402_0)], .row 3 1 (List.map iN b402_0)], fun b402_0 => f31_c5 a0 N b402_0, fun _ _ => [.ptr 0 0, .ptr 402 0], fun b402_0 m0 => [.box [.dat (sl_sl_iN a0)], .box [.rs 90500 m0], .row 3 1 (List.map iN b402_0)], fun b402_0 => List.length b402_0, fun _ => rfl, fun _ => rfl⟩
theorem Ef31_c5 {a0 N b402_0} : (Lf31_c5 a0 N).E b402_0 = f31_c5 a0 N b402_0 := rfl
def f31 (N : Nat) (a0 : List (List Int)) (a1 : List Int) : Option ((List Int) × Int) :=
 (f68 N a0 a1).bind fun x1 =>
 bif decide (¬ x1 = (0 : Int)) then (some ([], x1))
 else (joinK (f31_c5 a0 N) fun k1 =>
 demB a1 (k1 [])
 ((app 8 [] a1).bind fun x16 =>
 k1 x16))
def G31 (ds : List D) (d : D) : Prop := ∃ (N : Nat) (a0 : List (List Int)) (a1 : List Int) (r : (List Int) × Int), ds = [sl_sl_iN a0, sl_iN a1] ∧ f31 N a0 a1 = some r ∧ d = .tup [sl_iN r.1, iN r.2]
theorem G31.step {N : Nat} {a0 : List (List Int)} {a1 : List Int} {ρ : Type} {A : ((List Int) × Int) → Option ρ} {q : ρ} {ds : List D} {K : D → Prop} (hd : ds = [sl_sl_iN a0, sl_iN a1]) (h : ∀ r, A r = some q → K (.tup [sl_iN r.1, iN r.2])) (hF : (f31 N a0 a1).bind A = some q) : ∃ d, G31 ds d ∧ K d := by
  obtain ⟨r, hr, hA⟩ := bind_some hF
  exact ⟨_, ⟨N, a0, a1, r, hd, hr, rfl⟩, h r hA⟩
set_option maxRecDepth 20000 in
set_option maxHeartbeats 4000000 in
theorem P31 : PureOK Try.prog 31 G31 := by
  refine pure_of_vc (c := mkCtx tyTree [(71, false, inlPg (mkCtx tyTree [(59, true, lendPg [[1], [0], [1]] G59)]) Try.f71), (70, false, inlPg (mkCtx tyTree []) Try.f70), (68, true, lendPg [[1], [1]] G68)]) rfl tyOK (ctx_eff (callable Try.func71 rfl rfl) (CallOK.inl rfl tyOK (ctx_lend (callable Try.func59 rfl rfl) P59 (ctx_nil)) Try.func71 (by kernel_rfl)) (ctx_eff (callable Try.func70 rfl rfl) (CallOK.inl rfl tyOK (ctx_nil) Try.func70 (by kernel_rfl)) (ctx_lend (callable Try.func68 rfl rfl) P68 (ctx_nil)))) [[1], [0]] 2 Try.func31 rfl rfl (by decide) (by kernel_rfl) ?_
  rintro ds d ⟨N, a0, a1, r, rfl, hF, rfl⟩ hok
  clear hok
  refine ⟨rfl, ?_⟩
  show vc _ _ _ _ ⟨[(0, .dat (sl_sl_iN a0)), (1, .dat (sl_iN a1))], []⟩ _
  unfold f31 at hF
  repeat' (first
    | ((with_reducible first | refine q0 _ _ ?_ | refine q1 _ _ _ _ ?_ | refine q2 _ _ _ ?_); clear Q q0 q1 q2)
    | ((with_reducible first | refine seq_op ?hx (fun Q q0 q1 q2 => ?_) | refine draw_op ?hx (fun Q q0 q1 q2 => ?_) | refine seq_op0 ?hx (fun Q q0 q1 q2 => ?_) | refine draw_op0 ?hx (fun Q q0 q1 q2 => ?_)); (case hx => exact rfl); conv => whnf)
    | ((with_reducible refine cond_id ?_); (first | ((refine condKT rfl ?hy ?_); (case hy => first | assumption | exact notT (by assumption) | exact rfl)) | ((refine condKF rfl ?hy ?_); (case hy => first | assumption | exact notF (by assumption) | exact rfl)) | (revert hF; (with_reducible refine condF ?hx ?_ ?_); (case hx => exact rfl); all_goals (intro hc hF))))
    | ((with_reducible refine seq_nil ?_); (first | ((with_reducible refine hR _ ?_); clear R hR) | ((with_reducible refine hL _ ?_); clear L hL)))
    | ((with_reducible refine draw_nil ?_); (with_reducible refine hR _ _ ?hx ?_); (case hx => kernel_rfl); (first | clear R hR | clear hR))
    | ((with_reducible first | refine int_step ?_ | refine len_step ?_ | refine idx2 (by assumption) ?_ | refine idx3 (by assumption) ?_); conv => whnf)
    | (with_reducible first | refine vc_block ?_ | refine vc_skip ?_ | refine vc_ret ?_ | refine vc_exit ?_ | refine vc_region (fun R hR => ?_) | refine k_seq_ret ?_ | refine k_seq_exit ?_ | refine k_blk ?_ | refine k_blk_ret ?_ | refine k_blk_here ?_ | refine k_loop_ret ?_ | refine k_loop_exit ?_)
    | ((with_reducible refine vc_seqN [13, 5] ?hx ?_); (case hx => exact rfl))
    | ((with_reducible refine vc_draw ?hx (fun R hR => ?_)); (case hx => exact rfl))
    | (revert hF; (refine Lp.cut0 Lf31_c13 f31_c13 13 rfl rfl ?_ ?_); (intro hF); rotate_left; (rintro out9 hF; dsimp only [Lf31_c13] at hF; unfold f31_c13 at hF); rotate_right)
    | exact Lp.head Ef31_c13 hF _ ⟨_, rfl, rfl, rfl, rfl⟩ (by first | exact rfl | ((try dsimp only [Lf31_c13]); first | assumption | omega | (simp only [List.length_set]; done)))
    | (revert hF; (refine Lp.loop Ef31_8 (_, _) rfl ⟨_, rfl, rfl, rfl, rfl⟩ (pr2 (by first | exact rfl | ((try dsimp only [Lf31_8]); first | assumption | omega | (simp only [List.length_set]; done))) (by first | exact rfl | ((try dsimp only [Lf31_8]); first | assumption | omega | (simp only [List.length_set]; done)))) (fun _ => rfl) ?_); rintro n ⟨out9, v23, b402_0'⟩ hF; dsimp only [Lf31_8, f31_8] at hF; unfold f31_8b at hF)
    | exact Lp.back Ef31_8 hF (_, _) ⟨_, rfl, rfl, rfl, rfl⟩ (pr2 (by first | exact rfl | ((try dsimp only [Lf31_8]); first | assumption | omega | (simp only [List.length_set]; done))) (by first | exact rfl | ((try dsimp only [Lf31_8]); first | assumption | omega | (simp only [List.length_set]; done))))
    | (revert hF; (refine Lp.cut2 Lf31_c5 f31_c5 5 rfl rfl ?_ ?_); (intro hF); rotate_left; (rintro b402_0 hF; dsimp only [Lf31_c5] at hF; unfold f31_c5 at hF); rotate_right)
    | exact Lp.head Ef31_c5 hF _ ⟨_, rfl, rfl, rfl, rfl⟩ (by first | exact rfl | ((try dsimp only [Lf31_c5]); first | assumption | omega | (simp only [List.length_set]; done)))
    | (revert hF; (with_reducible refine G59.lend ?hx ?_); (case hx => exact rfl); intro v hF; conv => whnf)
    | (revert hF; (with_reducible refine G68.lend ?hx ?_); (case hx => exact rfl); intro v hF; conv => whnf)
    | ((with_reducible first | refine k_blk_out ?hx ?_ | refine vc_condT ?hx ?_); (case hx => exact rfl))
    | (revert hF; (with_reducible refine idx1 ?hn ?_); (case hn => first | exact rfl | exact (List.length_map _) | assumption | omega | simp); intro x hx hF; conv => whnf)
    | ((with_reducible have hG := app_fact hF); clear hF; (first | ((refine app_row hG ?hn ?hs (fun q hF => ?_)); (case hn => first | exact rfl | assumption | omega); (case hs => exact rfl)) | ((refine app_nil (d := iN) hG ?hs (fun q hF => ?_)); (case hs => exact rfl)) | ((refine app_gen (d := iN) hG ?ho ?hn ?hs (fun q hF => ?_)); (case ho => exact rfl); (case hn => exact rfl); (case hs => exact rfl))); clear hG; conv => whnf)
    | ((refine row_all ?hn ?_); (case hn => first | exact rfl | (simp; done) | (simp; omega)); conv => whnf)
    | ((with_reducible refine le_step ?hn ?_); (case hn => first | exact rfl | assumption | omega); conv => whnf)
    | ((with_reducible have hG := setx_fact hF); clear hF; (refine setx_step hG ?hs (fun q hl hF => ?_)); (case hs => exact rfl); clear hG; conv => whnf)
    | (revert hF; (with_reducible refine dem_step ?_ ?_); (intro hl hF; conv => whnf); rotate_left; (intro hF; conv => whnf); rotate_right)
    | ((refine ⟨?hx, ?_⟩); (case hx => exact ⟨rfl, Nat.le_of_ble_eq_true rfl, rfl⟩); conv => whnf)
    | ((with_reducible refine ex_step ?_); conv => whnf)
    | ((with_reducible refine both_T ?hx ?_); (case hx => first | exact rfl | assumption | exact notT (by assumption)); conv => whnf)
    | ((with_reducible refine both_F ?hx ?_); (case hx => first | exact rfl | assumption | exact notF (by assumption)); conv => whnf)
    | (revert hF; (with_reducible refine ite_step ?_ ?_) <;> (intro hc hF; conv => whnf))
    | ((with_reducible refine vc_condF ?hx ?_); (case hx => exact rfl))
    | (show retD _ _ _ _ _ _; conv => whnf)
    | ((refine inl_step ?ha ?hb ?hc rfl ?_); (case ha => exact rfl); (case hb => omega); (case hc => exact Nat.le_of_ble_eq_true rfl))
    | (show Kinl _ _ _ _ _ _ _; conv => whnf)
    | ((with_reducible refine kinl_step ?ha ?hb ?_); (case ha => exact rfl); (case hb => exact rfl); conv => whnf)
    | ((refine ⟨?hx, trivial⟩); (case hx => (cases hF; exact rfl)))
    | ((refine ⟨?hx, ?_⟩); (case hx => decide); conv => whnf)
    | with_reducible refine k_seq ?_
    | (have hF : (none : Option _) = some _ := hF; cases hF))
end
end Go.Vc
namespace Go.Vc
open Go.Proofs
set_option linter.unusedVariables false
set_option linter.unnecessarySimpa false
set_option linter.unusedSimpArgs false
section
variable {c : Ctx} {p nid : Nat} {a b : Code} {st : St} {K : Ex → St → Prop}
/- f33: tusche/tuschelaw01.fixes -/
def f33_c8 : Option (Bool) :=
 some (true)
def Lf33_c8 : Lp (Unit) Unit (Bool) := lp0 ⟨[], [], [], []⟩ (fun _ => []) (fun _ => []) (fun _ => f33_c8)
theorem Ef33_c8 : (Lf33_c8).E () = f33_c8 := rfl
def f33_4b (r4 : Int → Option (Bool)) (a0 : List Fix) (a1 : List Fix) (k0 : Option (Bool)) (i5 : Int) : Option (Bool) :=
 bif decide (i5 < (List.length a0 : Int)) then ((ix a0 i5).bind fun x1 =>
 (ix a1 i5).bind fun x2 =>
 bif !(decide (x1.At = x2.At) && (decide (x1.Digit = x2.Digit) && true)) then (some (false))
 else (r4 (W (i5 + (1 : Int)))))
 else k0
def f33_4 (a0 : List Fix) (a1 : List Fix) (k0 : Option (Bool)) : Nat → Int → Option (Bool)
  | 0, _ => none
  | n + 1, i5 => f33_4b (f33_4 a0 a1 k0 n) a0 a1 k0 i5
def Lf33_4 (a0 : List Fix) (a1 : List Fix) (k0 : Option (Bool)) : Lp (Nat × Int) Unit (Bool) := lp0 ⟨[0, 1, 5], [], [], []⟩ (fun (_, i5) => [.dat (sl_Fix a0), .dat (sl_Fix a1), .dat (iN i5)]) (fun (_, _) => []) (fun (n, i5) => f33_4 a0 a1 k0 n i5)
theorem Ef33_4 {a0 a1 k0 n i5} : (Lf33_4 a0 a1 k0).E (n, i5) = f33_4 a0 a1 k0 n i5 := rfl
def f33 (N : Nat) (a0 : List Fix) (a1 : List Fix) : Option (Bool) :=
 bif decide (¬ (List.length a0 : Int) = (List.length a1 : Int)) then (some (false))
 else (joinK f33_c8 fun k0 =>
 f33_4 a0 a1 k0 N (0 : Int))
def G33 (ds : List D) (d : D) : Prop := ∃ (N : Nat) (a0 : List Fix) (a1 : List Fix) (r : Bool), ds = [sl_Fix a0, sl_Fix a1] ∧ f33 N a0 a1 = some r ∧ d = bN r
theorem G33.lend {N : Nat} {a0 : List Fix} {a1 : List Fix} {ρ : Type} {A : Bool → Option ρ} {q : ρ} {ds : List D} {K : D → Prop} (hd : ds = [sl_Fix a0, sl_Fix a1]) (h : ∀ r, A r = some q → K (bN r)) (hF : (f33 N a0 a1).bind A = some q) : ∃ d, (G33 ds d ∧ d.flatB = true) ∧ K d := by
  obtain ⟨r, hr, hA⟩ := bind_some hF
  exact ⟨_, ⟨⟨N, a0, a1, r, hd, hr, rfl⟩, rfl⟩, h r hA⟩
theorem G33.step {N : Nat} {a0 : List Fix} {a1 : List Fix} {ρ : Type} {A : Bool → Option ρ} {q : ρ} {ds : List D} {K : D → Prop} (hd : ds = [sl_Fix a0, sl_Fix a1]) (h : ∀ r, A r = some q → K (bN r)) (hF : (f33 N a0 a1).bind A = some q) : ∃ d, G33 ds d ∧ K d := by
  obtain ⟨r, hr, hA⟩ := bind_some hF
  exact ⟨_, ⟨N, a0, a1, r, hd, hr, rfl⟩, h r hA⟩
set_option maxRecDepth 20000 in
set_option maxHeartbeats 4000000 in
theorem P33 : PureOK Try.prog 33 G33 := by
  refine pure_of_vc (c := mkCtx tyTree []) rfl tyOK (ctx_nil) [[0]] 2 Try.func33 rfl rfl (by decide) (by kernel_rfl) ?_
  rintro ds d ⟨N, a0, a1, r, rfl, hF, rfl⟩ hok
  clear hok
  refine ⟨rfl, ?_⟩
  show vc _ _ _ _ ⟨[(0, .dat (sl_Fix a0)), (1, .dat (sl_Fix a1))], []⟩ _
  unfold f33 at hF
  repeat' (first
    | ((with_reducible first | refine q0 _ _ ?_ | refine q1 _ _ _ _ ?_ | refine q2 _ _ _ ?_); clear Q q0 q1 q2)
    | ((with_reducible first | refine seq_op ?hx (fun Q q0 q1 q2 => ?_) | refine draw_op ?hx (fun Q q0 q1 q2 => ?_)); (case hx => exact rfl); conv => whnf)
    | ((with_reducible refine cond_id ?_); (first | ((refine condKT rfl ?hy ?_); (case hy => first | assumption | exact notT (by assumption) | exact rfl)) | ((refine condKF rfl ?hy ?_); (case hy => first | assumption | exact notF (by assumption) | exact rfl)) | (revert hF; (with_reducible refine condF ?hx ?_ ?_); (case hx => exact rfl); all_goals (intro hc hF))))
    | ((with_reducible refine seq_nil ?_); (first | ((with_reducible refine hR _ ?_); clear R hR) | ((with_reducible refine hL _ ?_); clear L hL)))
    | ((with_reducible refine draw_nil ?_); (with_reducible refine hR _ _ ?hx ?_); (case hx => kernel_rfl); (first | clear R hR | clear hR))
    | ((with_reducible first | refine int_step ?_ | refine len_step ?_ | refine idx2 (by assumption) ?_ | refine idx3 (by assumption) ?_); conv => whnf)
    | (with_reducible first | refine vc_block ?_ | refine vc_skip ?_ | refine vc_ret ?_ | refine vc_exit ?_ | refine vc_region (fun R hR => ?_) | refine k_seq_ret ?_ | refine k_seq_exit ?_ | refine k_blk ?_ | refine k_blk_ret ?_ | refine k_blk_here ?_ | refine k_loop_ret ?_ | refine k_loop_exit ?_)
    | ((with_reducible refine vc_seqN [8] ?hx ?_); (case hx => exact rfl))
    | ((with_reducible refine vc_draw ?hx (fun R hR => ?_)); (case hx => exact rfl))
    | (revert hF; (refine Lp.cut0 Lf33_c8 f33_c8 8 rfl rfl ?_ ?_); (intro hF); rotate_left; (rintro _ hF; dsimp only [Lf33_c8] at hF; unfold f33_c8 at hF); rotate_right)
    | exact Lp.head Ef33_c8 hF () ⟨_, rfl, rfl, rfl, rfl⟩ rfl
    | (revert hF; (refine Lp.loop Ef33_4 () rfl ⟨_, rfl, rfl, rfl, rfl⟩ rfl (fun _ => rfl) ?_); rintro n i5 hF; dsimp only [Lf33_4, f33_4] at hF; unfold f33_4b at hF)
    | exact Lp.back Ef33_4 hF () ⟨_, rfl, rfl, rfl, rfl⟩ rfl
    | ((with_reducible first | refine k_blk_out ?hx ?_ | refine vc_condT ?hx ?_); (case hx => exact rfl))
    | (revert hF; (with_reducible refine idx1 ?hn ?_); (case hn => first | exact rfl | exact (List.length_map _) | assumption | omega | simp); intro x hx hF; conv => whnf)
    | ((refine row_all ?hn ?_); (case hn => first | exact rfl | (simp; done) | (simp; omega)); conv => whnf)
    | ((with_reducible refine le_step ?hn ?_); (case hn => first | exact rfl | assumption | omega); conv => whnf)
    | ((refine ⟨?hx, ?_⟩); (case hx => exact ⟨rfl, Nat.le_of_ble_eq_true rfl, rfl⟩); conv => whnf)
    | ((with_reducible refine ex_step ?_); conv => whnf)
    | ((with_reducible refine both_T ?hx ?_); (case hx => first | exact rfl | assumption | exact notT (by assumption)); conv => whnf)
    | ((with_reducible refine both_F ?hx ?_); (case hx => first | exact rfl | assumption | exact notF (by assumption)); conv => whnf)
    | (revert hF; (with_reducible refine ite_step ?_ ?_) <;> (intro hc hF; conv => whnf))
    | ((with_reducible refine vc_condF ?hx ?_); (case hx => exact rfl))
    | (show retD _ _ _ _ _ _; conv => whnf)
    | ((refine ⟨?hx, trivial⟩); (case hx => (cases hF; exact rfl)))
    | ((refine ⟨?hx, ?_⟩); (case hx => decide); conv => whnf)
    | with_reducible refine k_seq ?_
    | (have hF : (none : Option _) = some _ := hF; cases hF))
end
end Go.Vc
namespace Go.Vc
open Go.Proofs
set_option linter.unusedVariables false
set_option linter.unnecessarySimpa false
set_option linter.unusedSimpArgs false
section
variable {c : Ctx} {p nid : Nat} {a b : Code} {st : St} {K : Ex → St → Prop}
/- f34: tusche/tuschelaw01.numbers -/
def f34_c8 : Option (Bool) :=
 some (true)
def Lf34_c8 : Lp (Unit) Unit (Bool) := lp0 ⟨[], [], [], []⟩ (fun _ => []) (fun _ => []) (fun _ => f34_c8)
theorem Ef34_c8 : (Lf34_c8).E () = f34_c8 := rfl
def f34_4b (r4 : Int → Option (Bool)) (a0 : List Int) (a1 : List Int) (k0 : Option (Bool)) (i5 : Int) : Option (Bool) :=
 bif decide (i5 < (List.length a0 : Int)) then ((ix a0 i5).bind fun x1 =>
 (ix a1 i5).bind fun x2 =>
 bif decide (¬ x1 = x2) then (some (false))
 else (r4 (W (i5 + (1 : Int)))))
 else k0
def f34_4 (a0 : List Int) (a1 : List Int) (k0 : Option (Bool)) : Nat → Int → Option (Bool)
  | 0, _ => none
  | n + 1, i5 => f34_4b (f34_4 a0 a1 k0 n) a0 a1 k0 i5
def Lf34_4 (a0 : List Int) (a1 : List Int) (k0 : Option (Bool)) : Lp (Nat × Int) Unit (Bool) := lp0 ⟨[0, 1, 5], [], [], []⟩ (fun (_, i5) => [.dat (sl_iN a0), .dat (sl_iN a1), .dat (iN i5)]) (fun (_, _) => []) (fun (n, i5) => f34_4 a0 a1 k0 n i5)
theorem Ef34_4 {a0 a1 k0 n i5} : (Lf34_4 a0 a1 k0).E (n, i5) = f34_4 a0 a1 k0 n i5 := rfl
def f34 (N : Nat) (a0 : List Int) (a1 : List Int) : Option (Bool) :=
 bif decide (¬ (List.length a0 : Int) = (List.length a1 : Int)) then (some (false))
 else (joinK f34_c8 fun k0 =>
 f34_4 a0 a1 k0 N (0 : Int))
def G34 (ds : List D) (d : D) : Prop := ∃ (N : Nat) (a0 : List Int) (a1 : List Int) (r : Bool), ds = [sl_iN a0, sl_iN a1] ∧ f34 N a0 a1 = some r ∧ d = bN r
theorem G34.lend {N : Nat} {a0 : List Int} {a1 : List Int} {ρ : Type} {A : Bool → Option ρ} {q : ρ} {ds : List D} {K : D → Prop} (hd : ds = [sl_iN a0, sl_iN a1]) (h : ∀ r, A r = some q → K (bN r)) (hF : (f34 N a0 a1).bind A = some q) : ∃ d, (G34 ds d ∧ d.flatB = true) ∧ K d := by
  obtain ⟨r, hr, hA⟩ := bind_some hF
  exact ⟨_, ⟨⟨N, a0, a1, r, hd, hr, rfl⟩, rfl⟩, h r hA⟩
theorem G34.step {N : Nat} {a0 : List Int} {a1 : List Int} {ρ : Type} {A : Bool → Option ρ} {q : ρ} {ds : List D} {K : D → Prop} (hd : ds = [sl_iN a0, sl_iN a1]) (h : ∀ r, A r = some q → K (bN r)) (hF : (f34 N a0 a1).bind A = some q) : ∃ d, G34 ds d ∧ K d := by
  obtain ⟨r, hr, hA⟩ := bind_some hF
  exact ⟨_, ⟨N, a0, a1, r, hd, hr, rfl⟩, h r hA⟩
set_option maxRecDepth 20000 in
set_option maxHeartbeats 4000000 in
theorem P34 : PureOK Try.prog 34 G34 := by
  refine pure_of_vc (c := mkCtx tyTree []) rfl tyOK (ctx_nil) [[0]] 2 Try.func34 rfl rfl (by decide) (by kernel_rfl) ?_
  rintro ds d ⟨N, a0, a1, r, rfl, hF, rfl⟩ hok
  clear hok
  refine ⟨rfl, ?_⟩
  show vc _ _ _ _ ⟨[(0, .dat (sl_iN a0)), (1, .dat (sl_iN a1))], []⟩ _
  unfold f34 at hF
  repeat' (first
    | ((with_reducible first | refine q0 _ _ ?_ | refine q1 _ _ _ _ ?_ | refine q2 _ _ _ ?_); clear Q q0 q1 q2)
    | ((with_reducible first | refine seq_op ?hx (fun Q q0 q1 q2 => ?_) | refine draw_op ?hx (fun Q q0 q1 q2 => ?_)); (case hx => exact rfl); conv => whnf)
    | ((with_reducible refine cond_id ?_); (first | ((refine condKT rfl ?hy ?_); (case hy => first | assumption | exact notT (by assumption) | exact rfl)) | ((refine condKF rfl ?hy ?_); (case hy => first | assumption | exact notF (by assumption) | exact rfl)) | (revert hF; (with_reducible refine condF ?hx ?_ ?_); (case hx => exact rfl); all_goals (intro hc hF))))
    | ((with_reducible refine seq_nil ?_); (first | ((with_reducible refine hR _ ?_); clear R hR) | ((with_reducible refine hL _ ?_); clear L hL)))
    | ((with_reducible refine draw_nil ?_); (with_reducible refine hR _ _ ?hx ?_); (case hx => kernel_rfl); (first | clear R hR | clear hR))
    | ((with_reducible first | refine int_step ?_ | refine len_step ?_ | refine idx2 (by assumption) ?_ | refine idx3 (by assumption) ?_); conv => whnf)
    | (with_reducible first | refine vc_block ?_ | refine vc_skip ?_ | refine vc_ret ?_ | refine vc_exit ?_ | refine vc_region (fun R hR => ?_) | refine k_seq_ret ?_ | refine k_seq_exit ?_ | refine k_blk ?_ | refine k_blk_ret ?_ | refine k_blk_here ?_ | refine k_loop_ret ?_ | refine k_loop_exit ?_)
    | ((with_reducible refine vc_seqN [8] ?hx ?_); (case hx => exact rfl))
    | ((with_reducible refine vc_draw ?hx (fun R hR => ?_)); (case hx => exact rfl))
    | (revert hF; (refine Lp.cut0 Lf34_c8 f34_c8 8 rfl rfl ?_ ?_); (intro hF); rotate_left; (rintro _ hF; dsimp only [Lf34_c8] at hF; unfold f34_c8 at hF); rotate_right)
    | exact Lp.head Ef34_c8 hF () ⟨_, rfl, rfl, rfl, rfl⟩ rfl
    | (revert hF; (refine Lp.loop Ef34_4 () rfl ⟨_, rfl, rfl, rfl, rfl⟩ rfl (fun _ => rfl) ?_); rintro n i5 hF; dsimp only [Lf34_4, f34_4] at hF; unfold f34_4b at hF)
    | exact Lp.back Ef34_4 hF () ⟨_, rfl, rfl, rfl, rfl⟩ rfl
    | ((with_reducible first | refine k_blk_out ?hx ?_ | refine vc_condT ?hx ?_); (case hx => exact rfl))
    | (revert hF; (with_reducible refine idx1 ?hn ?_); (case hn => first | exact rfl | exact (List.length_map _) | assumption | omega | simp); intro x hx hF; conv => whnf)
    | ((refine row_all ?hn ?_); (case hn => first | exact rfl | (simp; done) | (simp; omega)); conv => whnf)
    | ((with_reducible refine le_step ?hn ?_); (case hn => first | exact rfl | assumption | omega); conv => whnf)
    | ((refine ⟨?hx, ?_⟩); (case hx => exact ⟨rfl, Nat.le_of_ble_eq_true rfl, rfl⟩); conv => whnf)
    | ((with_reducible refine ex_step ?_); conv => whnf)
    | ((with_reducible refine both_T ?hx ?_); (case hx => first | exact rfl | assumption | exact notT (by assumption)); conv => whnf)
    | ((with_reducible refine both_F ?hx ?_); (case hx => first | exact rfl | assumption | exact notF (by assumption)); conv => whnf)
    | (revert hF; (with_reducible refine ite_step ?_ ?_) <;> (intro hc hF; conv => whnf))
    | ((with_reducible refine vc_condF ?hx ?_); (case hx => exact rfl))
    | (show retD _ _ _ _ _ _; conv => whnf)
    | ((refine ⟨?hx, trivial⟩); (case hx => (cases hF; exact rfl)))
    | ((refine ⟨?hx, ?_⟩); (case hx => decide); conv => whnf)
    | with_reducible refine k_seq ?_
    | (have hF : (none : Option _) = some _ := hF; cases hF))
end
end Go.Vc
namespace Go.Vc
open Go.Proofs
set_option linter.unusedVariables false
set_option linter.unnecessarySimpa false
set_option linter.unusedSimpArgs false
section
variable {c : Ctx} {p nid : Nat} {a b : Code} {st : St} {K : Ex → St → Prop}
/- f35: tusche/serial.Code -/
def f35_c15 (a0 : List (List Int)) (N : Nat) (number2 : Int) (out9 : List Int) : Option ((List Int) × Int) :=
 bif decide ((0 : Int) < number2) then (some ([], (4 : Int)))
 else ((f23 N a0 out9).bind fun x4 =>
 (app 8 out9 [x4.1]).bind fun x5 =>
 some (x5, x4.2))
def Lf35_c15 (a0 : List (List Int)) (N : Nat) : Lp (Int × (List Int)) (Nat) ((List Int) × Int) := ⟨⟨[0, 2, 9], [90009], [(.slot 9, 90009, 3, 1)], []⟩, fun (number2, out9) => [.dat (sl_sl_iN a0), .dat (iN number2), .rs 90009 (List.length out9)], fun (_, out9) => [.row 3 1 (List.map iN out9)], fun (number2, out9) => f35_c15 a0 N number2 out9, fun (number2, _) m0 => [.dat (sl_sl_iN a0), .dat (iN number2), .rs 90009 m0], fun (_, out9) _ => [.row 3 1 (List.map iN out9)], fun (_, out9) => List.length out9, fun _ => rfl, fun _ => rfl⟩
theorem Ef35_c15 {a0 N number2 out9} : (Lf35_c15 a0 N).E (number2, out9) = f35_c15 a0 N number2 out9 := rfl
def f35_10b (r10 : Int → (List Int) → Int → Option ((List Int) × Int)) (a0 : List (List Int)) (x3 : List Int) (k0 : Int → (List Int) → Option ((List Int) × Int)) (number2 : Int) (out9 : List Int) (v30 : Int) : Option ((List Int) × Int) :=
 bif decide (v30 < (List.length x3 : Int)) then ((chk (decide ((List.length a0 : Int) ≠ 0))).bind fun _ =>
 (ix out9 (W ((W ((List.length out9 : Int) - (1 : Int))) - v30))).bind fun x6 =>
 (setx out9 (W ((W ((List.length out9 : Int) - (1 : Int))) - v30)) (Int.tmod number2 (List.length a0 : Int))).bind fun x7 =>
 (chk (decide ((List.length a0 : Int) ≠ 0))).bind fun _ =>
 r10 (W (Int.tdiv number2 (List.length a0 : Int))) x7 (W (v30 + (1 : Int))))
 else (k0 number2 out9)
def f35_10 (a0 : List (List Int)) (x3 : List Int) (k0 : Int → (List Int) → Option ((List Int) × Int)) : Nat → Int → (List Int) → Int → Option ((List Int) × Int)
  | 0, _, _, _ => none
  | n + 1, number2, out9, v30 => f35_10b (f35_10 a0 x3 k0 n) a0 x3 k0 number2 out9 v30
def Lf35_10 (a0 : List (List Int)) (x3 : List Int) (k0 : Int → (List Int) → Option ((List Int) × Int)) : Lp (Nat × Int × (List Int) × Int) (Nat) ((List Int) × Int) := ⟨⟨[0, 2, 9, 29, 30], [90009], [(.slot 9, 90009, 3, 1)], []⟩, fun (_, number2, out9, v30) => [.dat (sl_sl_iN a0), .dat (iN number2), .rs 90009 (List.length out9), .dat (iN (List.length x3 : Int)), .dat (iN v30)], fun (_, _, out9, _) => [.row 3 1 (List.map iN out9)], fun (n, number2, out9, v30) => f35_10 a0 x3 k0 n number2 out9 v30, fun (_, number2, _, v30) m0 => [.dat (sl_sl_iN a0), .dat (iN number2), .rs 90009 m0, .dat (iN (List.length x3 : Int)), .dat (iN v30)], fun (_, _, out9, _) _ => [.row 3 1 (List.map iN out9)], fun (_, _, out9, _) => List.length out9, fun _ => rfl, fun _ => rfl⟩
theorem Ef35_10 {a0 x3 k0 n number2 out9 v30} : (Lf35_10 a0 x3 k0).E (n, number2, out9, v30) = f35_10 a0 x3 k0 n number2 out9 v30 := rfl
def f35 (N : Nat) (a0 : List (List Int)) (a1 : Int) (a2 : Int) : Option ((List Int) × Int) :=
 (f49 N a0).bind fun x1 =>
 bif decide (¬ x1 = (0 : Int)) then (some ([], x1))
 else ((f64 N (2 : Int) a1 (12 : Int)).bind fun x2 =>
 bif !x2 then (some ([], (3 : Int)))
 else (bif decide (a2 < (0 : Int)) then (some ([], (4 : Int)))
 else ((mkS 8 (0 : Int) (W (a1 - (1 : Int))) (W (a1 - (1 : Int)))).bind fun x3 =>
 joinK (f35_c15 a0 N) fun k0 =>
 f35_10 a0 x3 k0 N a2 x3 (0 : Int))))
def G35 (ds : List D) (d : D) : Prop := ∃ (N : Nat) (a0 : List (List Int)) (a1 : Int) (a2 : Int) (r : (List Int) × Int), ds = [sl_sl_iN a0, iN a1, iN a2] ∧ f35 N a0 a1 a2 = some r ∧ d = .tup [sl_iN r.1, iN r.2]
theorem G35.step {N : Nat} {a0 : List (List Int)} {a1 : Int} {a2 : Int} {ρ : Type} {A : ((List Int) × Int) → Option ρ} {q : ρ} {ds : List D} {K : D → Prop} (hd : ds = [sl_sl_iN a0, iN a1, iN a2]) (h : ∀ r, A r = some q → K (.tup [sl_iN r.1, iN r.2])) (hF : (f35 N a0 a1 a2).bind A = some q) : ∃ d, G35 ds d ∧ K d := by
  obtain ⟨r, hr, hA⟩ := bind_some hF
  exact ⟨_, ⟨N, a0, a1, a2, r, hd, hr, rfl⟩, h r hA⟩
set_option maxRecDepth 20000 in
set_option maxHeartbeats 4000000 in
theorem P35 : PureOK Try.prog 35 G35 := by
  refine pure_of_vc (c := mkCtx tyTree [(64, true, lendPg [[0], [0], [0]] G64), (49, true, lendPg [[1]] G49), (23, true, lendPg [[1], [1]] G23)]) rfl tyOK (ctx_lend (callable Try.func64 rfl rfl) P64 (ctx_lend (callable Try.func49 rfl rfl) P49 (ctx_lend (callable Try.func23 rfl rfl) P23 (ctx_nil)))) [[1], [0]] 3 Try.func35 rfl rfl (by decide) (by kernel_rfl) ?_
  rintro ds d ⟨N, a0, a1, a2, r, rfl, hF, rfl⟩ hok
  clear hok
  refine ⟨rfl, ?_⟩
  show vc _ _ _ _ ⟨[(0, .dat (sl_sl_iN a0)), (1, .dat (iN a1)), (2, .dat (iN a2))], []⟩ _
  unfold f35 at hF
  repeat' (first
    | ((with_reducible first | refine q0 _ _ ?_ | refine q1 _ _ _ _ ?_ | refine q2 _ _ _ ?_); clear Q q0 q1 q2)
    | ((with_reducible first | refine seq_op ?hx (fun Q q0 q1 q2 => ?_) | refine seq_op0 ?hx (fun Q q0 q1 q2 => ?_)); (case hx => exact rfl); conv => whnf)
    | ((with_reducible refine cond_id ?_); (first | ((refine condKT rfl ?hy ?_); (case hy => first | assumption | exact notT (by assumption) | exact rfl)) | ((refine condKF rfl ?hy ?_); (case hy => first | assumption | exact notF (by assumption) | exact rfl)) | (revert hF; (with_reducible refine condF ?hx ?_ ?_); (case hx => exact rfl); all_goals (intro hc hF))))
    | ((with_reducible refine seq_nil ?_); (first | ((with_reducible refine hR _ ?_); clear R hR) | ((with_reducible refine hL _ ?_); clear L hL)))
    | ((with_reducible first | refine int_step ?_ | refine len_step ?_ | refine idx2 (by assumption) ?_ | refine idx3 (by assumption) ?_); conv => whnf)
    | (with_reducible first | refine vc_block ?_ | refine vc_skip ?_ | refine vc_ret ?_ | refine vc_exit ?_ | refine vc_region (fun R hR => ?_) | refine k_seq_ret ?_ | refine k_seq_exit ?_ | refine k_blk ?_ | refine k_blk_ret ?_ | refine k_blk_here ?_ | refine k_loop_ret ?_ | refine k_loop_exit ?_)
    | ((with_reducible refine vc_seqN [15] ?hx ?_); (case hx => exact rfl))
    | (revert hF; (refine Lp.cut2 Lf35_c15 f35_c15 15 rfl rfl ?_ ?_); (intro hF); rotate_left; (rintro ⟨number2, out9⟩ hF; dsimp only [Lf35_c15] at hF; unfold f35_c15 at hF); rotate_right)
    | exact Lp.head Ef35_c15 hF _ ⟨_, rfl, rfl, rfl, rfl⟩ (by first | exact rfl | ((try dsimp only [Lf35_c15]); first | assumption | omega | (simp only [List.length_set]; done)))
    | (revert hF; (refine Lp.loop Ef35_10 _ rfl ⟨_, rfl, rfl, rfl, rfl⟩ (by first | exact rfl | ((try dsimp only [Lf35_10]); first | assumption | omega | (simp only [List.length_set]; done))) (fun _ => rfl) ?_); rintro n ⟨number2, out9, v30⟩ hF; dsimp only [Lf35_10, f35_10] at hF; unfold f35_10b at hF)
    | exact Lp.back Ef35_10 hF _ ⟨_, rfl, rfl, rfl, rfl⟩ (by first | exact rfl | ((try dsimp only [Lf35_10]); first | assumption | omega | (simp only [List.length_set]; done)))
    | (revert hF; (with_reducible refine G23.lend ?hx ?_); (case hx => exact rfl); intro v hF; conv => whnf)
    | (revert hF; (with_reducible refine G49.lend ?hx ?_); (case hx => exact rfl); intro v hF; conv => whnf)
    | (revert hF; (with_reducible refine G64.lend ?hx ?_); (case hx => exact rfl); intro v hF; conv => whnf)
    | (revert hF; (refine mkS_row (d := iN) ?hz ?_); (case hz => exact rfl); intro x hF; conv => whnf)
    | ((with_reducible first | refine k_blk_out ?hx ?_ | refine vc_condT ?hx ?_); (case hx => exact rfl))
    | (revert hF; (with_reducible refine idx1 ?hn ?_); (case hn => first | exact rfl | exact (List.length_map _) | assumption | omega | simp); intro x hx hF; conv => whnf)
    | ((with_reducible have hG := app_fact hF); clear hF; (first | ((refine app_row hG ?hn ?hs (fun q hF => ?_)); (case hn => first | exact rfl | assumption | omega); (case hs => exact rfl)) | ((refine app_nil (d := iN) hG ?hs (fun q hF => ?_)); (case hs => exact rfl)) | ((refine app_gen (d := iN) hG ?ho ?hn ?hs (fun q hF => ?_)); (case ho => exact rfl); (case hn => exact rfl); (case hs => exact rfl))); clear hG; conv => whnf)
    | ((refine row_all ?hn ?_); (case hn => first | exact rfl | (simp; done) | (simp; omega)); conv => whnf)
    | ((with_reducible refine le_step ?hn ?_); (case hn => first | exact rfl | assumption | omega); conv => whnf)
    | ((with_reducible have hG := setx_fact hF); clear hF; (refine setx_step hG ?hs (fun q hl hF => ?_)); (case hs => exact rfl); clear hG; conv => whnf)
    | ((refine ⟨?hx, ?_⟩); (case hx => exact ⟨rfl, Nat.le_of_ble_eq_true rfl, rfl⟩); conv => whnf)
    | ((with_reducible refine ex_step ?_); conv => whnf)
    | ((with_reducible have hG := chk_fact hF); clear hF; (refine ⟨?hx, ?_⟩); (case hx => (first | exact of_decide_eq_true hG.1 | exact hG.1)); have hF := hG.2; clear hG; conv => whnf)
    | ((with_reducible refine both_T ?hx ?_); (case hx => first | exact rfl | assumption | exact notT (by assumption)); conv => whnf)
    | ((with_reducible refine both_F ?hx ?_); (case hx => first | exact rfl | assumption | exact notF (by assumption)); conv => whnf)
    | (revert hF; (with_reducible refine ite_step ?_ ?_) <;> (intro hc hF; conv => whnf))
    | ((with_reducible refine vc_condF ?hx ?_); (case hx => exact rfl))
    | (show retD _ _ _ _ _ _; conv => whnf)
    | ((refine ⟨?hx, trivial⟩); (case hx => (cases hF; exact rfl)))
    | ((refine ⟨?hx, ?_⟩); (case hx => decide); conv => whnf)
    | with_reducible refine k_seq ?_
    | (have hF : (none : Option _) = some _ := hF; cases hF))
end
end Go.Vc
namespace Go.Vc
open Go.Proofs
set_option linter.unusedVariables false
set_option linter.unnecessarySimpa false
set_option linter.unusedSimpArgs false
section
variable {c : Ctx} {p nid : Nat} {a b : Code} {st : St} {K : Ex → St → Prop}
/- f37: tusche/serial.Number -/
def f37_i406_c6 (a0 : List (List Int)) (start0 : Int) : Option (Int × Int) :=
 some (start0, (0 : Int))
def Lf37_i406_c6 (a0 : List (List Int)) : Lp (Int) Unit (Int × Int) := lp0 ⟨[0], [0], [], []⟩ (fun start0 => [.dat (iN start0)]) (fun _ => [.box [.dat (sl_sl_iN a0)]]) (fun start0 => f37_i406_c6 a0 start0)
theorem Ef37_i406_c6 {a0 start0} : (Lf37_i406_c6 a0).E start0 = f37_i406_c6 a0 start0 := rfl
def f37_i406_2b (r2 : Int → Int → Option (Int × Int)) (a0 : List (List Int)) (x2 : List Int) (k0 : Int → Option (Int × Int)) (start0 : Int) (v11 : Int) : Option (Int × Int) :=
 bif decide (v11 < (List.length x2 : Int)) then ((ix x2 v11).bind fun x3 =>
 r2 (W ((W (start0 * (List.length a0 : Int))) + x3)) (W (v11 + (1 : Int))))
 else (k0 start0)
def f37_i406_2 (a0 : List (List Int)) (x2 : List Int) (k0 : Int → Option (Int × Int)) : Nat → Int → Int → Option (Int × Int)
  | 0, _, _ => none
  | n + 1, start0, v11 => f37_i406_2b (f37_i406_2 a0 x2 k0 n) a0 x2 k0 start0 v11
def Lf37_i406_2 (a0 : List (List Int)) (x2 : List Int) (k0 : Int → Option (Int × Int)) : Lp (Nat × Int × Int) Unit (Int × Int) := lp0 ⟨[0, 2, 9, 10, 11], [0], [], []⟩ (fun (_, start0, v11) => [.dat (iN start0), .fn 73 [] [.ptr 0 0], .dat (sl_iN x2), .dat (iN (List.length x2 : Int)), .dat (iN v11)]) (fun (_, _, _) => [.box [.dat (sl_sl_iN a0)]]) (fun (n, start0, v11) => f37_i406_2 a0 x2 k0 n start0 v11)
theorem Ef37_i406_2 {a0 x2 k0 n start0 v11} : (Lf37_i406_2 a0 x2 k0).E (n, start0, v11) = f37_i406_2 a0 x2 k0 n start0 v11 := rfl
def f37 (N : Nat) (a0 : List (List Int)) (a1 : List Int) : Option (Int × Int) :=
 (f27 N a0 a1).bind fun x1 =>
 bif decide (¬ x1 = (0 : Int)) then (some ((0 : Int), x1))
 else ((sub a1 0 (W ((List.length a1 : Int) - (1 : Int)))).bind fun x2 =>
 joinK (f37_i406_c6 a0) fun k0 =>
 f37_i406_2 a0 x2 k0 N (0 : Int) (0 : Int))
def G37 (ds : List D) (d : D) : Prop := ∃ (N : Nat) (a0 : List (List Int)) (a1 : List Int) (r : Int × Int), ds = [sl_sl_iN a0, sl_iN a1] ∧ f37 N a0 a1 = some r ∧ d = .tup [iN r.1, iN r.2]
theorem G37.lend {N : Nat} {a0 : List (List Int)} {a1 : List Int} {ρ : Type} {A : (Int × Int) → Option ρ} {q : ρ} {ds : List D} {K : D → Prop} (hd : ds = [sl_sl_iN a0, sl_iN a1]) (h : ∀ r, A r = some q → K (.tup [iN r.1, iN r.2])) (hF : (f37 N a0 a1).bind A = some q) : ∃ d, (G37 ds d ∧ d.flatB = true) ∧ K d := by
  obtain ⟨r, hr, hA⟩ := bind_some hF
  exact ⟨_, ⟨⟨N, a0, a1, r, hd, hr, rfl⟩, rfl⟩, h r hA⟩
theorem G37.step {N : Nat} {a0 : List (List Int)} {a1 : List Int} {ρ : Type} {A : (Int × Int) → Option ρ} {q : ρ} {ds : List D} {K : D → Prop} (hd : ds = [sl_sl_iN a0, sl_iN a1]) (h : ∀ r, A r = some q → K (.tup [iN r.1, iN r.2])) (hF : (f37 N a0 a1).bind A = some q) : ∃ d, G37 ds d ∧ K d := by
  obtain ⟨r, hr, hA⟩ := bind_some hF
  exact ⟨_, ⟨N, a0, a1, r, hd, hr, rfl⟩, h r hA⟩
set_option maxRecDepth 20000 in
set_option maxHeartbeats 4000000 in
theorem P37 : PureOK Try.prog 37 G37 := by
  refine pure_of_vc (c := mkCtx tyTree [(72, false, inlPg (mkCtx tyTree [(73, false, inlPg (mkCtx tyTree []) Try.f73)]) Try.f72), (27, true, lendPg [[1], [1]] G27)]) rfl tyOK (ctx_eff (callable Try.func72 rfl rfl) (CallOK.inl rfl tyOK (ctx_eff (callable Try.func73 rfl rfl) (CallOK.inl rfl tyOK (ctx_nil) Try.func73 (by kernel_rfl)) (ctx_nil)) Try.func72 (by kernel_rfl)) (ctx_lend (callable Try.func27 rfl rfl) P27 (ctx_nil))) [[0], [0]] 2 Try.func37 rfl rfl (by decide) (by kernel_rfl) ?_
  rintro ds d ⟨N, a0, a1, r, rfl, hF, rfl⟩ hok
  clear hok
  refine ⟨rfl, ?_⟩
  show vc _ _ _ _ ⟨[(0, .dat (sl_sl_iN a0)), (1, .dat (sl_iN a1))], []⟩ _
  unfold f37 at hF
  repeat' (first
    | ((with_reducible first | refine q0 _ _ ?_ | refine q1 _ _ _ _ ?_ | refine q2 _ _ _ ?_); clear Q q0 q1 q2)
    | ((with_reducible first | refine seq_op ?hx (fun Q q0 q1 q2 => ?_)); (case hx => exact rfl); conv => whnf)
    | ((with_reducible refine cond_id ?_); (first | ((refine condKT rfl ?hy ?_); (case hy => first | assumption | exact notT (by assumption) | exact rfl)) | ((refine condKF rfl ?hy ?_); (case hy => first | assumption | exact notF (by assumption) | exact rfl)) | (revert hF; (with_reducible refine condF ?hx ?_ ?_); (case hx => exact rfl); all_goals (intro hc hF))))
    | ((with_reducible refine seq_nil ?_); (first | ((with_reducible refine hR _ ?_); clear R hR) | ((with_reducible refine hL _ ?_); clear L hL)))
    | ((with_reducible first | refine int_step ?_ | refine len_step ?_ | refine idx2 (by assumption) ?_ | refine idx3 (by assumption) ?_); conv => whnf)
    | (with_reducible first | refine vc_block ?_ | refine vc_skip ?_ | refine vc_ret ?_ | refine vc_exit ?_ | refine vc_region (fun R hR => ?_) | refine k_seq_ret ?_ | refine k_seq_exit ?_ | refine k_blk ?_ | refine k_blk_ret ?_ | refine k_blk_here ?_ | refine k_loop_ret ?_ | refine k_loop_exit ?_)
    | ((with_reducible refine vc_seqN [407000000006] ?hx ?_); (case hx => exact rfl))
    | (revert hF; (refine Lp.cut1 Lf37_i406_c6 f37_i406_c6 407000000006 rfl rfl ?_ ?_); (intro hF); rotate_left; (rintro start0 hF; dsimp only [Lf37_i406_c6] at hF; unfold f37_i406_c6 at hF); rotate_right)
    | exact Lp.head Ef37_i406_c6 hF () ⟨_, rfl, rfl, rfl, rfl⟩ rfl
    | (revert hF; (refine Lp.loop Ef37_i406_2 () rfl ⟨_, rfl, rfl, rfl, rfl⟩ rfl (fun _ => rfl) ?_); rintro n ⟨start0, v11⟩ hF; dsimp only [Lf37_i406_2, f37_i406_2] at hF; unfold f37_i406_2b at hF)
    | exact Lp.back Ef37_i406_2 hF () ⟨_, rfl, rfl, rfl, rfl⟩ rfl
    | (revert hF; (with_reducible refine G27.lend ?hx ?_); (case hx => exact rfl); intro v hF; conv => whnf)
    | ((with_reducible first | refine k_blk_out ?hx ?_ | refine vc_condT ?hx ?_); (case hx => exact rfl))
    | (revert hF; (with_reducible refine idx1 ?hn ?_); (case hn => first | exact rfl | exact (List.length_map _) | assumption | omega | simp); intro x hx hF; conv => whnf)
    | ((with_reducible have hG := sub_fact hF); clear hF; (refine sub_step hG (fun q hF => ?_)); clear hG; conv => whnf)
    | ((with_reducible refine Or.inr ?_); conv => whnf)
    | ((refine row_all ?hn ?_); (case hn => first | exact rfl | (simp; done) | (simp; omega)); conv => whnf)
    | ((with_reducible refine le_step ?hn ?_); (case hn => first | exact rfl | assumption | omega); conv => whnf)
    | ((refine ⟨?hx, ?_⟩); (case hx => exact ⟨rfl, Nat.le_of_ble_eq_true rfl, rfl⟩); conv => whnf)
    | ((with_reducible refine ex_step ?_); conv => whnf)
    | ((with_reducible refine both_T ?hx ?_); (case hx => first | exact rfl | assumption | exact notT (by assumption)); conv => whnf)
    | ((with_reducible refine both_F ?hx ?_); (case hx => first | exact rfl | assumption | exact notF (by assumption)); conv => whnf)
    | (revert hF; (with_reducible refine ite_step ?_ ?_) <;> (intro hc hF; conv => whnf))
    | ((with_reducible refine vc_condF ?hx ?_); (case hx => exact rfl))
    | (show retD _ _ _ _ _ _; conv => whnf)
    | ((refine inl_step ?ha ?hb ?hc rfl ?_); (case ha => exact rfl); (case hb => omega); (case hc => exact Nat.le_of_ble_eq_true rfl))
    | (show Kinl _ _ _ _ _ _ _; conv => whnf)
    | ((with_reducible refine kinl_step ?ha ?hb ?_); (case ha => exact rfl); (case hb => exact rfl); conv => whnf)
    | ((refine ⟨?hx, trivial⟩); (case hx => (cases hF; exact rfl)))
    | ((refine ⟨?hx, ?_⟩); (case hx => decide); conv => whnf)
    | with_reducible refine k_seq ?_
    | (have hF : (none : Option _) = some _ := hF; cases hF))
end
end Go.Vc
namespace Go.Vc
open Go.Proofs
set_option linter.unusedVariables false
set_option linter.unnecessarySimpa false
set_option linter.unusedSimpArgs false
section
variable {c : Ctx} {p nid : Nat} {a b : Code} {st : St} {K : Ex → St → Prop}
/- f74: tusche/serial.divisor -/
def f74_c3 (a0' : Int) : Option (Int) :=
 some (a0')
def Lf74_c3 : Lp (Int) Unit (Int) := lp0 ⟨[0], [], [], []⟩ (fun a0' => [.dat (iN (a0'))]) (fun _ => []) (fun a0' => f74_c3 a0')
theorem Ef74_c3 {a0'} : (Lf74_c3).E a0' = f74_c3 a0' := rfl
def f74_1b (r1 : Int → Int → Option (Int)) (k0 : Int → Option (Int)) (a0' : Int) (b1 : Int) : Option (Int) :=
 bif decide ((0 : Int) < b1) then ((chk (decide (b1 ≠ 0))).bind fun _ =>
 r1 b1 (Int.tmod (a0') b1))
 else (k0 (a0'))
def f74_1 (k0 : Int → Option (Int)) : Nat → Int → Int → Option (Int)
  | 0, _, _ => none
  | n + 1, a0', b1 => f74_1b (f74_1 k0 n) k0 a0' b1
def Lf74_1 (k0 : Int → Option (Int)) : Lp (Nat × Int × Int) Unit (Int) := lp0 ⟨[0, 1], [], [], []⟩ (fun (_, a0', b1) => [.dat (iN (a0')), .dat (iN b1)]) (fun (_, _, _) => []) (fun (n, a0', b1) => f74_1 k0 n a0' b1)
theorem Ef74_1 {k0 n a0' b1} : (Lf74_1 k0).E (n, a0', b1) = f74_1 k0 n a0' b1 := rfl
def f74 (N : Nat) (a0 : Int) (a1 : Int) : Option (Int) :=
 joinK f74_c3 fun k0 =>
 f74_1 k0 N a0 a1
def G74 (ds : List D) (d : D) : Prop := ∃ (N : Nat) (a0 : Int) (a1 : Int) (r : Int), ds = [iN a0, iN a1] ∧ f74 N a0 a1 = some r ∧ d = iN r
theorem G74.lend {N : Nat} {a0 : Int} {a1 : Int} {ρ : Type} {A : Int → Option ρ} {q : ρ} {ds : List D} {K : D → Prop} (hd : ds = [iN a0, iN a1]) (h : ∀ r, A r = some q → K (iN r)) (hF : (f74 N a0 a1).bind A = some q) : ∃ d, (G74 ds d ∧ d.flatB = true) ∧ K d := by
  obtain ⟨r, hr, hA⟩ := bind_some hF
  exact ⟨_, ⟨⟨N, a0, a1, r, hd, hr, rfl⟩, rfl⟩, h r hA⟩
theorem G74.step {N : Nat} {a0 : Int} {a1 : Int} {ρ : Type} {A : Int → Option ρ} {q : ρ} {ds : List D} {K : D → Prop} (hd : ds = [iN a0, iN a1]) (h : ∀ r, A r = some q → K (iN r)) (hF : (f74 N a0 a1).bind A = some q) : ∃ d, G74 ds d ∧ K d := by
  obtain ⟨r, hr, hA⟩ := bind_some hF
  exact ⟨_, ⟨N, a0, a1, r, hd, hr, rfl⟩, h r hA⟩
set_option maxRecDepth 20000 in
set_option maxHeartbeats 4000000 in
theorem P74 : PureOK Try.prog 74 G74 := by
  refine pure_of_vc (c := mkCtx tyTree []) rfl tyOK (ctx_nil) [[0]] 2 Try.func74 rfl rfl (by decide) (by kernel_rfl) ?_
  rintro ds d ⟨N, a0, a1, r, rfl, hF, rfl⟩ hok
  clear hok
  refine ⟨rfl, ?_⟩
  show vc _ _ _ _ ⟨[(0, .dat (iN a0)), (1, .dat (iN a1))], []⟩ _
  unfold f74 at hF
  repeat' (first
    | ((with_reducible first | refine q0 _ _ ?_ | refine q1 _ _ _ _ ?_ | refine q2 _ _ _ ?_); clear Q q0 q1 q2)
    | ((with_reducible first | refine seq_op ?hx (fun Q q0 q1 q2 => ?_) | refine draw_op ?hx (fun Q q0 q1 q2 => ?_)); (case hx => exact rfl); conv => whnf)
    | ((with_reducible refine cond_id ?_); (first | ((refine condKT rfl ?hy ?_); (case hy => first | assumption | exact notT (by assumption) | exact rfl)) | ((refine condKF rfl ?hy ?_); (case hy => first | assumption | exact notF (by assumption) | exact rfl)) | (revert hF; (with_reducible refine condF ?hx ?_ ?_); (case hx => exact rfl); all_goals (intro hc hF))))
    | ((with_reducible refine seq_nil ?_); (first | ((with_reducible refine hR _ ?_); clear R hR) | ((with_reducible refine hL _ ?_); clear L hL)))
    | ((with_reducible refine draw_nil ?_); (with_reducible refine hR _ _ ?hx ?_); (case hx => kernel_rfl); (first | clear R hR | clear hR))
    | ((with_reducible first | refine int_step ?_); conv => whnf)
    | (with_reducible first | refine vc_block ?_ | refine vc_skip ?_ | refine vc_ret ?_ | refine vc_exit ?_ | refine vc_region (fun R hR => ?_) | refine k_seq_ret ?_ | refine k_seq_exit ?_ | refine k_blk ?_ | refine k_blk_ret ?_ | refine k_blk_here ?_ | refine k_loop_ret ?_ | refine k_loop_exit ?_)
    | ((with_reducible refine vc_seqN [3] ?hx ?_); (case hx => exact rfl))
    | ((with_reducible refine vc_draw ?hx (fun R hR => ?_)); (case hx => exact rfl))
    | (revert hF; (refine Lp.cut0 Lf74_c3 f74_c3 3 rfl rfl ?_ ?_); (intro hF); rotate_left; (rintro a0' hF; dsimp only [Lf74_c3] at hF; unfold f74_c3 at hF); rotate_right)
    | exact Lp.head Ef74_c3 hF () ⟨_, rfl, rfl, rfl, rfl⟩ rfl
    | (revert hF; (refine Lp.loop Ef74_1 () rfl ⟨_, rfl, rfl, rfl, rfl⟩ rfl (fun _ => rfl) ?_); rintro n ⟨a0', b1⟩ hF; dsimp only [Lf74_1, f74_1] at hF; unfold f74_1b at hF)
    | exact Lp.back Ef74_1 hF () ⟨_, rfl, rfl, rfl, rfl⟩ rfl
    | ((with_reducible first | refine k_blk_out ?hx ?_ | refine vc_condT ?hx ?_); (case hx => exact rfl))
    | ((refine row_all ?hn ?_); (case hn => first | exact rfl | (simp; done) | (simp; omega)); conv => whnf)
    | ((with_reducible refine le_step ?hn ?_); (case hn => first | exact rfl | assumption | omega); conv => whnf)
    | ((refine ⟨?hx, ?_⟩); (case hx => exact ⟨rfl, Nat.le_of_ble_eq_true rfl, rfl⟩); conv => whnf)
    | ((with_reducible refine ex_step ?_); conv => whnf)
    | ((with_reducible have hG := chk_fact hF); clear hF; (refine ⟨?hx, ?_⟩); (case hx => (first | exact of_decide_eq_true hG.1 | exact hG.1)); have hF := hG.2; clear hG; conv => whnf)
    | ((with_reducible refine both_T ?hx ?_); (case hx => first | exact rfl | assumption | exact notT (by assumption)); conv => whnf)
    | ((with_reducible refine both_F ?hx ?_); (case hx => first | exact rfl | assumption | exact notF (by assumption)); conv => whnf)
    | (revert hF; (with_reducible refine ite_step ?_ ?_) <;> (intro hc hF; conv => whnf))
    | ((with_reducible refine vc_condF ?hx ?_); (case hx => exact rfl))
    | (show retD _ _ _ _ _ _; conv => whnf)
    | ((refine ⟨?hx, trivial⟩); (case hx => (cases hF; exact rfl)))
    | ((refine ⟨?hx, ?_⟩); (case hx => decide); conv => whnf)
    | with_reducible refine k_seq ?_
    | (have hF : (none : Option _) = some _ := hF; cases hF))
end
end Go.Vc
namespace Go.Vc
open Go.Proofs
set_option linter.unusedVariables false
set_option linter.unnecessarySimpa false
set_option linter.unusedSimpArgs false
section
variable {c : Ctx} {p nid : Nat} {a b : Code} {st : St} {K : Ex → St → Prop}
/- f41: tusche/serial.Line -/
def f41_c15 (b501 : List (List Int)) : Option ((List (List Int)) × Int) :=
 some (b501, (0 : Int))
def Lf41_c15 : Lp ((List (List Int))) (Nat) ((List (List Int)) × Int) := ⟨⟨[6], [501], [], []⟩, fun b501 => [.rs 501 (List.length b501)], fun b501 => [.nest 27 3 1 none (List.map (List.map iN) b501)], fun b501 => f41_c15 b501, fun _ m0 => [.rs 501 m0], fun b501 _ => [.nest 27 3 1 none (List.map (List.map iN) b501)], fun b501 => List.length b501, fun _ => rfl, fun _ => rfl⟩
theorem Ef41_c15 {b501} : (Lf41_c15).E b501 = f41_c15 b501 := rfl
def f41_c14 (a0 : Int) (a1 : Int) (x4 : List (List Int)) (v29 : Int) (r7 : Int → (List (List Int)) → Option ((List (List Int)) × Int)) (b501' : List (List Int)) : Option ((List (List Int)) × Int) :=
 r7 (W (v29 + (1 : Int))) (b501')
def Lf41_c14 (a0 : Int) (a1 : Int) (x4 : List (List Int)) (v29 : Int) (r7 : Int → (List (List Int)) → Option ((List (List Int)) × Int)) : Lp ((List (List Int))) (Nat) ((List (List Int)) × Int) := ⟨⟨[0, 1, 6, 28, 29], [501], [], []⟩, fun b501' => [.dat (iN a0), .dat (iN a1), .rs 501 (List.length (b501')), .dat (iN (List.length x4 : Int)), .dat (iN v29)], fun b501' => [.nest 27 3 1 none (List.map (List.map iN) (b501'))], fun b501' => f41_c14 a0 a1 x4 v29 r7 b501', fun _ m0 => [.dat (iN a0), .dat (iN a1), .rs 501 m0, .dat (iN (List.length x4 : Int)), .dat (iN v29)], fun b501' _ => [.nest 27 3 1 none (List.map (List.map iN) (b501'))], fun b501' => List.length (b501'), fun _ => rfl, fun _ => rfl⟩
theorem Ef41_c14 {a0 a1 x4 v29 r7 b501'} : (Lf41_c14 a0 a1 x4 v29 r7).E b501' = f41_c14 a0 a1 x4 v29 r7 b501' := rfl
def f41_10b (r10 : Int → (List (List Int)) → Option ((List (List Int)) × Int)) (a0 : Int) (a1 : Int) (x4 : List (List Int)) (v29 : Int) (k1 : (List (List Int)) → Option ((List (List Int)) × Int)) (v33 : Int) (b501' : List (List Int)) : Option ((List (List Int)) × Int) :=
 bif decide (v33 < a0) then ((ix (b501') v29).bind fun x5 =>
 (chk (decide (a0 ≠ 0))).bind fun _ =>
 (app 8 x5 [Int.tmod (W ((W (a1 * v29)) + v33)) a0]).bind fun x6 =>
 (ix (b501') v29).bind fun x7 =>
 (setx (b501') v29 x6).bind fun x8 =>
 r10 (W (v33 + (1 : Int))) x8)
 else (k1 (b501'))
def f41_10 (a0 : Int) (a1 : Int) (x4 : List (List Int)) (v29 : Int) (k1 : (List (List Int)) → Option ((List (List Int)) × Int)) : Nat → Int → (List (List Int)) → Option ((List (List Int)) × Int)
  | 0, _, _ => none
  | n + 1, v33, b501' => f41_10b (f41_10 a0 a1 x4 v29 k1 n) a0 a1 x4 v29 k1 v33 b501'
def Lf41_10 (a0 : Int) (a1 : Int) (x4 : List (List Int)) (v29 : Int) (k1 : (List (List Int)) → Option ((List (List Int)) × Int)) : Lp (Nat × Int × (List (List Int))) (Nat) ((List (List Int)) × Int) := ⟨⟨[0, 1, 6, 7, 28, 29, 32, 33], [501], [], []⟩, fun (_, v33, b501') => [.dat (iN a0), .dat (iN a1), .rs 501 (List.length (b501')), .dat (iN v29), .dat (iN (List.length x4 : Int)), .dat (iN v29), .dat (iN a0), .dat (iN v33)], fun (_, _, b501') => [.nest 27 3 1 none (List.map (List.map iN) (b501'))], fun (n, v33, b501') => f41_10 a0 a1 x4 v29 k1 n v33 b501', fun (_, v33, _) m0 => [.dat (iN a0), .dat (iN a1), .rs 501 m0, .dat (iN v29), .dat (iN (List.length x4 : Int)), .dat (iN v29), .dat (iN a0), .dat (iN v33)], fun (_, _, b501') _ => [.nest 27 3 1 none (List.map (List.map iN) (b501'))], fun (_, _, b501') => List.length (b501'), fun _ => rfl, fun _ => rfl⟩
theorem Ef41_10 {a0 a1 x4 v29 k1 n v33 b501'} : (Lf41_10 a0 a1 x4 v29 k1).E (n, v33, b501') = f41_10 a0 a1 x4 v29 k1 n v33 b501' := rfl
def f41_7b (r7 : Int → (List (List Int)) → Option ((List (List Int)) × Int)) (a0 : Int) (a1 : Int) (N : Nat) (x4 : List (List Int)) (k0 : (List (List Int)) → Option ((List (List Int)) × Int)) (v29 : Int) (b501 : List (List Int)) : Option ((List (List Int)) × Int) :=
 bif decide (v29 < (List.length x4 : Int)) then (joinK (f41_c14 a0 a1 x4 v29 r7) fun k1 =>
 f41_10 a0 a1 x4 v29 k1 N (0 : Int) b501)
 else (k0 b501)
def f41_7 (a0 : Int) (a1 : Int) (N : Nat) (x4 : List (List Int)) (k0 : (List (List Int)) → Option ((List (List Int)) × Int)) : Nat → Int → (List (List Int)) → Option ((List (List Int)) × Int)
  | 0, _, _ => none
  | n + 1, v29, b501 => f41_7b (f41_7 a0 a1 N x4 k0 n) a0 a1 N x4 k0 v29 b501
def Lf41_7 (a0 : Int) (a1 : Int) (N : Nat) (x4 : List (List Int)) (k0 : (List (List Int)) → Option ((List (List Int)) × Int)) : Lp (Nat × Int × (List (List Int))) (Nat) ((List (List Int)) × Int) := ⟨⟨[0, 1, 6, 28, 29], [501], [], []⟩, fun (_, v29, b501) => [.dat (iN a0), .dat (iN a1), .rs 501 (List.length b501), .dat (iN (List.length x4 : Int)), .dat (iN v29)], fun (_, _, b501) => [.nest 27 3 1 none (List.map (List.map iN) b501)], fun (n, v29, b501) => f41_7 a0 a1 N x4 k0 n v29 b501, fun (_, v29, _) m0 => [.dat (iN a0), .dat (iN a1), .rs 501 m0, .dat (iN (List.length x4 : Int)), .dat (iN v29)], fun (_, _, b501) _ => [.nest 27 3 1 none (List.map (List.map iN) b501)], fun (_, _, b501) => List.length b501, fun _ => rfl, fun _ => rfl⟩
theorem Ef41_7 {a0 a1 N x4 k0 n v29 b501} : (Lf41_7 a0 a1 N x4 k0).E (n, v29, b501) = f41_7 a0 a1 N x4 k0 n v29 b501 := rfl
def f41 (N : Nat) (a0 : Int) (a1 : Int) : Option ((List (List Int)) × Int) :=
 (f64 N (2 : Int) a0 (10 : Int)).bind fun x1 =>
 bif !x1 then (some ([], (4 : Int)))
 else ((f64 N (1 : Int) a1 (W (a0 - (1 : Int)))).bind fun x2 =>
 bif !x2 then (some ([], (4 : Int)))
 else ((f74 N a0 a1).bind fun x3 =>
 bif decide ((1 : Int) < x3) then (some ([], (12 : Int)))
 else ((mkS 24 [] a0 a0).bind fun x4 =>
 joinK f41_c15 fun k0 =>
 f41_7 a0 a1 N x4 k0 N (0 : Int) x4)))
def G41 (ds : List D) (d : D) : Prop := ∃ (N : Nat) (a0 : Int) (a1 : Int) (r : (List (List Int)) × Int), ds = [iN a0, iN a1] ∧ f41 N a0 a1 = some r ∧ d = .tup [sl_sl_iN r.1, iN r.2]
theorem G41.step {N : Nat} {a0 : Int} {a1 : Int} {ρ : Type} {A : ((List (List Int)) × Int) → Option ρ} {q : ρ} {ds : List D} {K : D → Prop} (hd : ds = [iN a0, iN a1]) (h : ∀ r, A r = some q → K (.tup [sl_sl_iN r.1, iN r.2])) (hF : (f41 N a0 a1).bind A = some q) : ∃ d, G41 ds d ∧ K d := by
  obtain ⟨r, hr, hA⟩ := bind_some hF
  exact ⟨_, ⟨N, a0, a1, r, hd, hr, rfl⟩, h r hA⟩
set_option maxRecDepth 20000 in
set_option maxHeartbeats 4000000 in
theorem P41 : PureOK Try.prog 41 G41 := by
  refine pure_of_vc (c := mkCtx tyTree [(74, true, lendPg [[0], [0]] G74), (64, true, lendPg [[0], [0], [0]] G64)]) rfl tyOK (ctx_lend (callable Try.func74 rfl rfl) P74 (ctx_lend (callable Try.func64 rfl rfl) P64 (ctx_nil))) [[1], [0]] 2 Try.func41 rfl rfl (by decide) (by kernel_rfl) ?_
  rintro ds d ⟨N, a0, a1, r, rfl, hF, rfl⟩ hok
  clear hok
  refine ⟨rfl, ?_⟩
  show vc _ _ _ _ ⟨[(0, .dat (iN a0)), (1, .dat (iN a1))], []⟩ _
  unfold f41 at hF
  repeat' (first
    | ((with_reducible first | refine q0 _ _ ?_ | refine q1 _ _ _ _ ?_ | refine q2 _ _ _ ?_); clear Q q0 q1 q2)
    | ((with_reducible first | refine seq_op ?hx (fun Q q0 q1 q2 => ?_) | refine draw_op ?hx (fun Q q0 q1 q2 => ?_) | refine seq_op0 ?hx (fun Q q0 q1 q2 => ?_) | refine draw_op0 ?hx (fun Q q0 q1 q2 => ?_)); (case hx => exact rfl); conv => whnf)
    | ((with_reducible first | refine seq_off ?hx ?_ | refine seq_off0 ?hx ?_ | refine draw_off ?hx ?_ | refine draw_off0 ?hx ?_ | refine k_blk_out ?hx ?_ | refine vc_condT ?hx ?_); (case hx => exact rfl))
    | ((with_reducible refine seq_id ?_); (first | ((first | refine seq_opK rfl ?hy (fun Q q0 q1 q2 => ?_) | refine seq_opK0 rfl ?hy (fun Q q0 q1 q2 => ?_)); (case hy => first | assumption | exact notT (by assumption) | exact rfl); conv => whnf) | ((first | refine seq_offK rfl ?hy ?_ | refine seq_offK0 rfl ?hy ?_); (case hy => first | assumption | exact notF (by assumption) | exact rfl)) | (revert hF; (with_reducible first | refine seq_opF ?hx ?_ ?_ | refine seq_opF0 ?hx ?_ ?_); (case hx => exact rfl); (intro hc hF Q q0 q1 q2; conv => whnf); rotate_left; (intro hc hF); rotate_right) | (revert hF; (with_reducible first | refine seq_opN ?hx ?_ ?_ | refine seq_opN0 ?hx ?_ ?_); (case hx => exact rfl); (intro hc hF); rotate_left; (intro hc hF Q q0 q1 q2; conv => whnf); rotate_right)))
    | ((with_reducible refine cond_id ?_); (first | ((refine condKT rfl ?hy ?_); (case hy => first | assumption | exact notT (by assumption) | exact rfl)) | ((refine condKF rfl ?hy ?_); (case hy => first | assumption | exact notF (by assumption) | exact rfl)) | (revert hF; (with_reducible refine condF ?hx ?_ ?_); (case hx => exact rfl); all_goals (intro hc hF))))
    | ((with_reducible refine seq_nil ?_); (first | ((with_reducible refine hR _ ?_); clear R hR) | ((with_reducible refine hL _ ?_); clear L hL)))
    | ((with_reducible refine draw_nil ?_); (with_reducible refine hR _ _ ?hx ?_); (case hx => kernel_rfl); (first | clear R hR | clear hR))
    | ((with_reducible first | refine int_step ?_ | refine len_step ?_ | refine idx2 (by assumption) ?_ | refine idx3 (by assumption) ?_); conv => whnf)
    | (with_reducible first | refine vc_block ?_ | refine vc_skip ?_ | refine vc_ret ?_ | refine vc_exit ?_ | refine vc_region (fun R hR => ?_) | refine k_seq_ret ?_ | refine k_seq_exit ?_ | refine k_blk ?_ | refine k_blk_ret ?_ | refine k_blk_here ?_ | refine k_loop_ret ?_ | refine k_loop_exit ?_)
    | ((with_reducible refine vc_seqN [15, 14] ?hx ?_); (case hx => exact rfl))
    | ((with_reducible refine vc_draw ?hx (fun R hR => ?_)); (case hx => exact rfl))
    | (revert hF; (refine Lp.cut0 Lf41_c15 f41_c15 15 rfl rfl ?_ ?_); (intro hF); rotate_left; (rintro b501 hF; dsimp only [Lf41_c15] at hF; unfold f41_c15 at hF); rotate_right)
    | exact Lp.head Ef41_c15 hF _ ⟨_, rfl, rfl, rfl, rfl⟩ (by first | exact rfl | ((try dsimp only [Lf41_c15]); first | assumption | omega | (simp only [List.length_set]; done)))
    | (revert hF; (refine Lp.cut5 Lf41_c14 f41_c14 14 rfl rfl ?_ ?_); (intro hF); rotate_left; (rintro b501' hF; dsimp only [Lf41_c14] at hF; unfold f41_c14 at hF); rotate_right)
    | exact Lp.head Ef41_c14 hF _ ⟨_, rfl, rfl, rfl, rfl⟩ (by first | exact rfl | ((try dsimp only [Lf41_c14]); first | assumption | omega | (simp only [List.length_set]; done)))
    | (revert hF; (refine Lp.loop Ef41_10 _ rfl ⟨_, rfl, rfl, rfl, rfl⟩ (by first | exact rfl | ((try dsimp only [Lf41_10]); first | assumption | omega | (simp only [List.length_set]; done))) (fun _ => rfl) ?_); rintro n ⟨v33, b501'⟩ hF; dsimp only [Lf41_10, f41_10] at hF; unfold f41_10b at hF)
    | exact Lp.back Ef41_10 hF _ ⟨_, rfl, rfl, rfl, rfl⟩ (by first | exact rfl | ((try dsimp only [Lf41_10]); first | assumption | omega | (simp only [List.length_set]; done)))
    | (revert hF; (refine Lp.loop Ef41_7 _ rfl ⟨_, rfl, rfl, rfl, rfl⟩ (by first | exact rfl | ((try dsimp only [Lf41_7]); first | assumption | omega | (simp only [List.length_set]; done))) (fun _ => rfl) ?_); rintro n ⟨v29, b501⟩ hF; dsimp only [Lf41_7, f41_7] at hF; unfold f41_7b at hF)
    | exact Lp.back Ef41_7 hF _ ⟨_, rfl, rfl, rfl, rfl⟩ (by first | exact rfl | ((try dsimp only [Lf41_7]); first | assumption | omega | (simp only [List.length_set]; done)))
    | (revert hF; (with_reducible refine G64.lend ?hx ?_); (case hx => exact rfl); intro v hF; conv => whnf)
    | (revert hF; (with_reducible refine G74.lend ?hx ?_); (case hx => exact rfl); intro v hF; conv => whnf)
    | (revert hF; (refine mkS_nest (d := iN) ?_); intro x hF; conv => whnf)
    | ((refine take_step (d := iN) (by assumption) ?_); conv => whnf)
    | ((with_reducible have hG := setx_fact hF); clear hF; (refine put_row (d := iN) hG ?hn ?ho (fun q hl hF => ?_)); (case hn => first | exact rfl | assumption | omega); (case ho => (rintro p h; first | cases h; done | (cases h; rfl))); clear hG; conv => whnf)
    | ((refine nest_all (e := sl_iN) (d := iN) (fun _ => rfl) ?hn ?_); (case hn => first | exact rfl | assumption | omega); conv => whnf)
    | (revert hF; (with_reducible refine idx1 ?hn ?_); (case hn => first | exact rfl | exact (List.length_map _) | assumption | omega | simp); intro x hx hF; conv => whnf)
    | ((with_reducible have hG := app_fact hF); clear hF; (first | ((refine app_row hG ?hn ?hs (fun q hF => ?_)); (case hn => first | exact rfl | assumption | omega); (case hs => exact rfl)) | ((refine app_nil (d := iN) hG ?hs (fun q hF => ?_)); (case hs => exact rfl)) | ((refine app_gen (d := iN) hG ?ho ?hn ?hs (fun q hF => ?_)); (case ho => exact rfl); (case hn => exact rfl); (case hs => exact rfl))); clear hG; conv => whnf)
    | ((refine row_all ?hn ?_); (case hn => first | exact rfl | (simp; done) | (simp; omega)); conv => whnf)
    | ((with_reducible refine le_step ?hn ?_); (case hn => first | exact rfl | assumption | omega); conv => whnf)
    | ((with_reducible have hG := setx_fact hF); clear hF; (refine setx_step hG ?hs (fun q hl hF => ?_)); (case hs => exact rfl); clear hG; conv => whnf)
    | ((refine ⟨?hx, ?_⟩); (case hx => exact ⟨rfl, Nat.le_of_ble_eq_true rfl, rfl⟩); conv => whnf)
    | ((with_reducible refine ex_step ?_); conv => whnf)
    | ((with_reducible have hG := chk_fact hF); clear hF; (refine ⟨?hx, ?_⟩); (case hx => (first | exact of_decide_eq_true hG.1 | exact hG.1)); have hF := hG.2; clear hG; conv => whnf)
    | ((with_reducible refine both_T ?hx ?_); (case hx => first | exact rfl | assumption | exact notT (by assumption)); conv => whnf)
    | ((with_reducible refine both_F ?hx ?_); (case hx => first | exact rfl | assumption | exact notF (by assumption)); conv => whnf)
    | (revert hF; (with_reducible refine ite_step ?_ ?_) <;> (intro hc hF; conv => whnf))
    | ((with_reducible refine vc_condF ?hx ?_); (case hx => exact rfl))
    | (show retD _ _ _ _ _ _; conv => whnf)
    | ((refine ⟨?hx, trivial⟩); (case hx => (cases hF; exact rfl)))
    | ((refine ⟨?hx, ?_⟩); (case hx => decide); conv => whnf)
    | with_reducible refine k_seq ?_
    | (have hF : (none : Option _) = some _ := hF; cases hF))
end
end Go.Vc
namespace Go.Vc
open Go.Proofs
set_option linter.unusedVariables false
set_option linter.unnecessarySimpa false
set_option linter.unusedSimpArgs false
section
variable {c : Ctx} {p nid : Nat} {a b : Code} {st : St} {K : Ex → St → Prop}
/- f77: tusche/serial.Blind$1 -/
def f77 (N : Nat) (a0 : Int) (a1 : Int) : Option ((List Int) × (List Int)) :=
 some ([a0, a1], [a1, a0])
def G77 (ds : List D) (d : D) : Prop := ∃ (N : Nat) (a0 : Int) (a1 : Int) (r : (List Int) × (List Int)), ds = [iN a0, iN a1] ∧ f77 N a0 a1 = some r ∧ d = .tup [sl_iN r.1, sl_iN r.2]
theorem G77.step {N : Nat} {a0 : Int} {a1 : Int} {ρ : Type} {A : ((List Int) × (List Int)) → Option ρ} {q : ρ} {ds : List D} {K : D → Prop} (hd : ds = [iN a0, iN a1]) (h : ∀ r, A r = some q → K (.tup [sl_iN r.1, sl_iN r.2])) (hF : (f77 N a0 a1).bind A = some q) : ∃ d, G77 ds d ∧ K d := by
  obtain ⟨r, hr, hA⟩ := bind_some hF
  exact ⟨_, ⟨N, a0, a1, r, hd, hr, rfl⟩, h r hA⟩
set_option maxRecDepth 20000 in
set_option maxHeartbeats 4000000 in
theorem P77 : PureOK Try.prog 77 G77 := by
  refine pure_of_vc (c := mkCtx tyTree []) rfl tyOK (ctx_nil) [[1], [1]] 2 Try.func77 rfl rfl (by decide) (by kernel_rfl) ?_
  rintro ds d ⟨N, a0, a1, r, rfl, hF, rfl⟩ hok
  clear hok
  refine ⟨rfl, ?_⟩
  show vc _ _ _ _ ⟨[(0, .dat (iN a0)), (1, .dat (iN a1))], []⟩ _
  unfold f77 at hF
  repeat' (first
    | ((with_reducible first | refine q0 _ _ ?_ | refine q1 _ _ _ _ ?_ | refine q2 _ _ _ ?_); clear Q q0 q1 q2)
    | ((with_reducible first | refine seq_op ?hx (fun Q q0 q1 q2 => ?_)); (case hx => exact rfl); conv => whnf)
    | ((with_reducible refine seq_nil ?_); (first | ((with_reducible refine hR _ ?_); clear R hR) | ((with_reducible refine hL _ ?_); clear L hL)))
    | ((with_reducible first | refine int_step ?_); conv => whnf)
    | (with_reducible first | refine vc_skip ?_ | refine vc_ret ?_ | refine vc_region (fun R hR => ?_) | refine k_seq_ret ?_)
    | ((with_reducible refine vc_seqN [] ?hx ?_); (case hx => exact rfl))
    | ((refine row_all ?hn ?_); (case hn => first | exact rfl | (simp; done) | (simp; omega)); conv => whnf)
    | ((with_reducible refine le_step ?hn ?_); (case hn => first | exact rfl | assumption | omega); conv => whnf)
    | ((refine ⟨?hx, ?_⟩); (case hx => exact ⟨rfl, Nat.le_of_ble_eq_true rfl, rfl⟩); conv => whnf)
    | ((with_reducible refine ex_step ?_); conv => whnf)
    | ((with_reducible refine both_T ?hx ?_); (case hx => first | exact rfl | assumption | exact notT (by assumption)); conv => whnf)
    | ((with_reducible refine both_F ?hx ?_); (case hx => first | exact rfl | assumption | exact notF (by assumption)); conv => whnf)
    | (revert hF; (with_reducible refine ite_step ?_ ?_) <;> (intro hc hF; conv => whnf))
    | (show retD _ _ _ _ _ _; conv => whnf)
    | ((refine ⟨?hx, trivial⟩); (case hx => (cases hF; exact rfl)))
    | ((refine ⟨?hx, ?_⟩); (case hx => decide); conv => whnf)
    | with_reducible refine k_seq ?_
    | (have hF : (none : Option _) = some _ := hF; cases hF))
end
end Go.Vc
namespace Go.Vc
open Go.Proofs
set_option linter.unusedVariables false
set_option linter.unnecessarySimpa false
set_option linter.unusedSimpArgs false
section
variable {c : Ctx} {p nid : Nat} {a b : Code} {st : St} {K : Ex → St → Prop}
/- f108: cmp.isNaN[int] -/
def f108 (N : Nat) (a0 : Int) : Option (Bool) :=
 some (decide (¬ a0 = a0))
def G108 (ds : List D) (d : D) : Prop := ∃ (N : Nat) (a0 : Int) (r : Bool), ds = [iN a0] ∧ f108 N a0 = some r ∧ d = bN r
theorem G108.lend {N : Nat} {a0 : Int} {ρ : Type} {A : Bool → Option ρ} {q : ρ} {ds : List D} {K : D → Prop} (hd : ds = [iN a0]) (h : ∀ r, A r = some q → K (bN r)) (hF : (f108 N a0).bind A = some q) : ∃ d, (G108 ds d ∧ d.flatB = true) ∧ K d := by
  obtain ⟨r, hr, hA⟩ := bind_some hF
  exact ⟨_, ⟨⟨N, a0, r, hd, hr, rfl⟩, rfl⟩, h r hA⟩
theorem G108.step {N : Nat} {a0 : Int} {ρ : Type} {A : Bool → Option ρ} {q : ρ} {ds : List D} {K : D → Prop} (hd : ds = [iN a0]) (h : ∀ r, A r = some q → K (bN r)) (hF : (f108 N a0).bind A = some q) : ∃ d, G108 ds d ∧ K d := by
  obtain ⟨r, hr, hA⟩ := bind_some hF
  exact ⟨_, ⟨N, a0, r, hd, hr, rfl⟩, h r hA⟩
set_option maxRecDepth 20000 in
set_option maxHeartbeats 4000000 in
theorem P108 : PureOK Try.prog 108 G108 := by
  refine pure_of_vc (c := mkCtx tyTree []) rfl tyOK (ctx_nil) [[0]] 1 Try.func108 rfl rfl (by decide) (by kernel_rfl) ?_
  rintro ds d ⟨N, a0, r, rfl, hF, rfl⟩ hok
  clear hok
  refine ⟨rfl, ?_⟩
  show vc _ _ _ _ ⟨[(0, .dat (iN a0))], []⟩ _
  unfold f108 at hF
  repeat' (first
    | ((with_reducible first | refine q0 _ _ ?_ | refine q1 _ _ _ _ ?_ | refine q2 _ _ _ ?_); clear Q q0 q1 q2)
    | ((with_reducible first | refine seq_op ?hx (fun Q q0 q1 q2 => ?_)); (case hx => exact rfl); conv => whnf)
    | ((with_reducible refine seq_nil ?_); (first | ((with_reducible refine hR _ ?_); clear R hR) | ((with_reducible refine hL _ ?_); clear L hL)))
    | ((with_reducible first | refine int_step ?_); conv => whnf)
    | (with_reducible first | refine vc_skip ?_ | refine vc_ret ?_ | refine vc_region (fun R hR => ?_) | refine k_seq_ret ?_)
    | ((with_reducible refine vc_seqN [] ?hx ?_); (case hx => exact rfl))
    | ((refine row_all ?hn ?_); (case hn => first | exact rfl | (simp; done) | (simp; omega)); conv => whnf)
    | ((with_reducible refine le_step ?hn ?_); (case hn => first | exact rfl | assumption | omega); conv => whnf)
    | ((refine ⟨?hx, ?_⟩); (case hx => exact ⟨rfl, Nat.le_of_ble_eq_true rfl, rfl⟩); conv => whnf)
    | ((with_reducible refine ex_step ?_); conv => whnf)
    | ((with_reducible refine both_T ?hx ?_); (case hx => first | exact rfl | assumption | exact notT (by assumption)); conv => whnf)
    | ((with_reducible refine both_F ?hx ?_); (case hx => first | exact rfl | assumption | exact notF (by assumption)); conv => whnf)
    | (revert hF; (with_reducible refine ite_step ?_ ?_) <;> (intro hc hF; conv => whnf))
    | (show retD _ _ _ _ _ _; conv => whnf)
    | ((refine ⟨?hx, trivial⟩); (case hx => (cases hF; exact rfl)))
    | ((refine ⟨?hx, ?_⟩); (case hx => decide); conv => whnf)
    | with_reducible refine k_seq ?_
    | (have hF : (none : Option _) = some _ := hF; cases hF))
end
end Go.Vc
namespace Go.Vc
open Go.Proofs
set_option linter.unusedVariables false
set_option linter.unnecessarySimpa false
set_option linter.unusedSimpArgs false
section
variable {c : Ctx} {p nid : Nat} {a b : Code} {st : St} {K : Ex → St → Prop}
/- f97: cmp.Compare[int] -/
def f97 (N : Nat) (a0 : Int) (a1 : Int) : Option (Int) :=
 (f108 N a0).bind fun x1 =>
 (f108 N a1).bind fun x2 =>
 bif x1 then (bif x2 then (some ((0 : Int)))
 else (some ((-1 : Int))))
 else (bif x2 then (some ((1 : Int)))
 else (bif decide (a0 < a1) then (some ((-1 : Int)))
 else (bif decide (a1 < a0) then (some ((1 : Int)))
 else (some ((0 : Int))))))
def G97 (ds : List D) (d : D) : Prop := ∃ (N : Nat) (a0 : Int) (a1 : Int) (r : Int), ds = [iN a0, iN a1] ∧ f97 N a0 a1 = some r ∧ d = iN r
theorem G97.lend {N : Nat} {a0 : Int} {a1 : Int} {ρ : Type} {A : Int → Option ρ} {q : ρ} {ds : List D} {K : D → Prop} (hd : ds = [iN a0, iN a1]) (h : ∀ r, A r = some q → K (iN r)) (hF : (f97 N a0 a1).bind A = some q) : ∃ d, (G97 ds d ∧ d.flatB = true) ∧ K d := by
  obtain ⟨r, hr, hA⟩ := bind_some hF
  exact ⟨_, ⟨⟨N, a0, a1, r, hd, hr, rfl⟩, rfl⟩, h r hA⟩
theorem G97.step {N : Nat} {a0 : Int} {a1 : Int} {ρ : Type} {A : Int → Option ρ} {q : ρ} {ds : List D} {K : D → Prop} (hd : ds = [iN a0, iN a1]) (h : ∀ r, A r = some q → K (iN r)) (hF : (f97 N a0 a1).bind A = some q) : ∃ d, G97 ds d ∧ K d := by
  obtain ⟨r, hr, hA⟩ := bind_some hF
  exact ⟨_, ⟨N, a0, a1, r, hd, hr, rfl⟩, h r hA⟩
set_option maxRecDepth 20000 in
set_option maxHeartbeats 4000000 in
theorem P97 : PureOK Try.prog 97 G97 := by
  refine pure_of_vc (c := mkCtx tyTree [(108, true, lendPg [[0]] G108)]) rfl tyOK (ctx_lend (callable Try.func108 rfl rfl) P108 (ctx_nil)) [[0]] 2 Try.func97 rfl rfl (by decide) (by kernel_rfl) ?_
  rintro ds d ⟨N, a0, a1, r, rfl, hF, rfl⟩ hok
  clear hok
  refine ⟨rfl, ?_⟩
  show vc _ _ _ _ ⟨[(0, .dat (iN a0)), (1, .dat (iN a1))], []⟩ _
  unfold f97 at hF
  repeat' (first
    | ((with_reducible first | refine q0 _ _ ?_ | refine q1 _ _ _ _ ?_ | refine q2 _ _ _ ?_); clear Q q0 q1 q2)
    | ((with_reducible first | refine seq_op ?hx (fun Q q0 q1 q2 => ?_)); (case hx => exact rfl); conv => whnf)
    | ((with_reducible refine cond_id ?_); (first | ((refine condKT rfl ?hy ?_); (case hy => first | assumption | exact notT (by assumption) | exact rfl)) | ((refine condKF rfl ?hy ?_); (case hy => first | assumption | exact notF (by assumption) | exact rfl)) | (revert hF; (with_reducible refine condF ?hx ?_ ?_); (case hx => exact rfl); all_goals (intro hc hF))))
    | ((with_reducible refine seq_nil ?_); (first | ((with_reducible refine hR _ ?_); clear R hR) | ((with_reducible refine hL _ ?_); clear L hL)))
    | ((with_reducible first | refine int_step ?_); conv => whnf)
    | (with_reducible first | refine vc_block ?_ | refine vc_skip ?_ | refine vc_ret ?_ | refine vc_exit ?_ | refine vc_region (fun R hR => ?_) | refine k_seq_ret ?_ | refine k_seq_exit ?_ | refine k_blk ?_ | refine k_blk_ret ?_ | refine k_blk_here ?_)
    | ((with_reducible refine vc_seqN [] ?hx ?_); (case hx => exact rfl))
    | (revert hF; (with_reducible refine G108.lend ?hx ?_); (case hx => exact rfl); intro v hF; conv => whnf)
    | ((with_reducible first | refine k_blk_out ?hx ?_ | refine vc_condT ?hx ?_); (case hx => exact rfl))
    | ((refine row_all ?hn ?_); (case hn => first | exact rfl | (simp; done) | (simp; omega)); conv => whnf)
    | ((with_reducible refine le_step ?hn ?_); (case hn => first | exact rfl | assumption | omega); conv => whnf)
    | ((refine ⟨?hx, ?_⟩); (case hx => exact ⟨rfl, Nat.le_of_ble_eq_true rfl, rfl⟩); conv => whnf)
    | ((with_reducible refine ex_step ?_); conv => whnf)
    | ((with_reducible refine both_T ?hx ?_); (case hx => first | exact rfl | assumption | exact notT (by assumption)); conv => whnf)
    | ((with_reducible refine both_F ?hx ?_); (case hx => first | exact rfl | assumption | exact notF (by assumption)); conv => whnf)
    | (revert hF; (with_reducible refine ite_step ?_ ?_) <;> (intro hc hF; conv => whnf))
    | ((with_reducible refine vc_condF ?hx ?_); (case hx => exact rfl))
    | (show retD _ _ _ _ _ _; conv => whnf)
    | ((refine ⟨?hx, trivial⟩); (case hx => (cases hF; exact rfl)))
    | ((refine ⟨?hx, ?_⟩); (case hx => decide); conv => whnf)
    | with_reducible refine k_seq ?_
    | (have hF : (none : Option _) = some _ := hF; cases hF))
end
end Go.Vc
namespace Go.Vc
open Go.Proofs
set_option linter.unusedVariables false
set_option linter.unnecessarySimpa false
set_option linter.unusedSimpArgs false
section
variable {c : Ctx} {p nid : Nat} {a b : Code} {st : St} {K : Ex → St → Prop}
/- f92: slices.Compare[[]int,int] -/
def f92_c11 (a0 : List Int) (a1 : List Int) : Option (Int) :=
 bif decide ((List.length a0 : Int) < (List.length a1 : Int)) then (some ((-1 : Int)))
 else (some ((0 : Int)))
def Lf92_c11 (a0 : List Int) (a1 : List Int) : Lp (Unit) Unit (Int) := lp0 ⟨[0, 1], [], [], []⟩ (fun _ => [.dat (sl_iN a0), .dat (sl_iN a1)]) (fun _ => []) (fun _ => f92_c11 a0 a1)
theorem Ef92_c11 {a0 a1} : (Lf92_c11 a0 a1).E () = f92_c11 a0 a1 := rfl
def f92_2b (r2 : Int → Option (Int)) (a0 : List Int) (a1 : List Int) (N : Nat) (k0 : Option (Int)) (v11 : Int) : Option (Int) :=
 bif decide (v11 < (List.length a0 : Int)) then ((ix a0 v11).bind fun x1 =>
 bif decide ((List.length a1 : Int) ≤ v11) then (some ((1 : Int)))
 else ((ix a1 v11).bind fun x2 =>
 (f97 N x1 x2).bind fun x3 =>
 bif decide (¬ x3 = (0 : Int)) then (some (x3))
 else (r2 (W (v11 + (1 : Int))))))
 else k0
def f92_2 (a0 : List Int) (a1 : List Int) (N : Nat) (k0 : Option (Int)) : Nat → Int → Option (Int)
  | 0, _ => none
  | n + 1, v11 => f92_2b (f92_2 a0 a1 N k0 n) a0 a1 N k0 v11
def Lf92_2 (a0 : List Int) (a1 : List Int) (N : Nat) (k0 : Option (Int)) : Lp (Nat × Int) Unit (Int) := lp0 ⟨[0, 1, 9, 10, 11], [], [], []⟩ (fun (_, v11) => [.dat (sl_iN a0), .dat (sl_iN a1), .dat (sl_iN a0), .dat (iN (List.length a0 : Int)), .dat (iN v11)]) (fun (_, _) => []) (fun (n, v11) => f92_2 a0 a1 N k0 n v11)
theorem Ef92_2 {a0 a1 N k0 n v11} : (Lf92_2 a0 a1 N k0).E (n, v11) = f92_2 a0 a1 N k0 n v11 := rfl
def f92 (N : Nat) (a0 : List Int) (a1 : List Int) : Option (Int) :=
 joinK (f92_c11 a0 a1) fun k0 =>
 f92_2 a0 a1 N k0 N (0 : Int)
def G92 (ds : List D) (d : D) : Prop := ∃ (N : Nat) (a0 : List Int) (a1 : List Int) (r : Int), ds = [sl_iN a0, sl_iN a1] ∧ f92 N a0 a1 = some r ∧ d = iN r
theorem G92.lend {N : Nat} {a0 : List Int} {a1 : List Int} {ρ : Type} {A : Int → Option ρ} {q : ρ} {ds : List D} {K : D → Prop} (hd : ds = [sl_iN a0, sl_iN a1]) (h : ∀ r, A r = some q → K (iN r)) (hF : (f92 N a0 a1).bind A = some q) : ∃ d, (G92 ds d ∧ d.flatB = true) ∧ K d := by
  obtain ⟨r, hr, hA⟩ := bind_some hF
  exact ⟨_, ⟨⟨N, a0, a1, r, hd, hr, rfl⟩, rfl⟩, h r hA⟩
theorem G92.step {N : Nat} {a0 : List Int} {a1 : List Int} {ρ : Type} {A : Int → Option ρ} {q : ρ} {ds : List D} {K : D → Prop} (hd : ds = [sl_iN a0, sl_iN a1]) (h : ∀ r, A r = some q → K (iN r)) (hF : (f92 N a0 a1).bind A = some q) : ∃ d, G92 ds d ∧ K d := by
  obtain ⟨r, hr, hA⟩ := bind_some hF
  exact ⟨_, ⟨N, a0, a1, r, hd, hr, rfl⟩, h r hA⟩
set_option maxRecDepth 20000 in
set_option maxHeartbeats 4000000 in
theorem P92 : PureOK Try.prog 92 G92 := by
  refine pure_of_vc (c := mkCtx tyTree [(97, true, lendPg [[0], [0]] G97)]) rfl tyOK (ctx_lend (callable Try.func97 rfl rfl) P97 (ctx_nil)) [[0]] 2 Try.func92 rfl rfl (by decide) (by kernel_rfl) ?_
  rintro ds d ⟨N, a0, a1, r, rfl, hF, rfl⟩ hok
  clear hok
  refine ⟨rfl, ?_⟩
  show vc _ _ _ _ ⟨[(0, .dat (sl_iN a0)), (1, .dat (sl_iN a1))], []⟩ _
  unfold f92 at hF
  repeat' (first
    | ((with_reducible first | refine q0 _ _ ?_ | refine q1 _ _ _ _ ?_ | refine q2 _ _ _ ?_); clear Q q0 q1 q2)
    | ((with_reducible first | refine seq_op ?hx (fun Q q0 q1 q2 => ?_)); (case hx => exact rfl); conv => whnf)
    | ((with_reducible refine cond_id ?_); (first | ((refine condKT rfl ?hy ?_); (case hy => first | assumption | exact notT (by assumption) | exact rfl)) | ((refine condKF rfl ?hy ?_); (case hy => first | assumption | exact notF (by assumption) | exact rfl)) | (revert hF; (with_reducible refine condF ?hx ?_ ?_); (case hx => exact rfl); all_goals (intro hc hF))))
    | ((with_reducible refine seq_nil ?_); (first | ((with_reducible refine hR _ ?_); clear R hR) | ((with_reducible refine hL _ ?_); clear L hL)))
    | ((with_reducible first | refine int_step ?_ | refine len_step ?_ | refine idx2 (by assumption) ?_ | refine idx3 (by assumption) ?_); conv => whnf)
    | (with_reducible first | refine vc_block ?_ | refine vc_skip ?_ | refine vc_ret ?_ | refine vc_exit ?_ | refine vc_region (fun R hR => ?_) | refine k_seq_ret ?_ | refine k_seq_exit ?_ | refine k_blk ?_ | refine k_blk_ret ?_ | refine k_blk_here ?_ | refine k_loop_ret ?_ | refine k_loop_exit ?_)
    | ((with_reducible refine vc_seqN [11] ?hx ?_); (case hx => exact rfl))
    | (revert hF; (refine Lp.cut2 Lf92_c11 f92_c11 11 rfl rfl ?_ ?_); (intro hF); rotate_left; (rintro _ hF; dsimp only [Lf92_c11] at hF; unfold f92_c11 at hF); rotate_right)
    | exact Lp.head Ef92_c11 hF () ⟨_, rfl, rfl, rfl, rfl⟩ rfl
    | (revert hF; (refine Lp.loop Ef92_2 () rfl ⟨_, rfl, rfl, rfl, rfl⟩ rfl (fun _ => rfl) ?_); rintro n v11 hF; dsimp only [Lf92_2, f92_2] at hF; unfold f92_2b at hF)
    | exact Lp.back Ef92_2 hF () ⟨_, rfl, rfl, rfl, rfl⟩ rfl
    | (revert hF; (with_reducible refine G97.lend ?hx ?_); (case hx => exact rfl); intro v hF; conv => whnf)
    | ((with_reducible first | refine k_blk_out ?hx ?_ | refine vc_condT ?hx ?_); (case hx => exact rfl))
    | (revert hF; (with_reducible refine idx1 ?hn ?_); (case hn => first | exact rfl | exact (List.length_map _) | assumption | omega | simp); intro x hx hF; conv => whnf)
    | ((refine row_all ?hn ?_); (case hn => first | exact rfl | (simp; done) | (simp; omega)); conv => whnf)
    | ((with_reducible refine le_step ?hn ?_); (case hn => first | exact rfl | assumption | omega); conv => whnf)
    | ((refine ⟨?hx, ?_⟩); (case hx => exact ⟨rfl, Nat.le_of_ble_eq_true rfl, rfl⟩); conv => whnf)
    | ((with_reducible refine ex_step ?_); conv => whnf)
    | ((with_reducible refine both_T ?hx ?_); (case hx => first | exact rfl | assumption | exact notT (by assumption)); conv => whnf)
    | ((with_reducible refine both_F ?hx ?_); (case hx => first | exact rfl | assumption | exact notF (by assumption)); conv => whnf)
    | (revert hF; (with_reducible refine ite_step ?_ ?_) <;> (intro hc hF; conv => whnf))
    | ((with_reducible refine vc_condF ?hx ?_); (case hx => exact rfl))
    | (show retD _ _ _ _ _ _; conv => whnf)
    | ((refine ⟨?hx, trivial⟩); (case hx => (cases hF; exact rfl)))
    | ((refine ⟨?hx, ?_⟩); (case hx => decide); conv => whnf)
    | with_reducible refine k_seq ?_
    | (have hF : (none : Option _) = some _ := hF; cases hF))
end
end Go.Vc
namespace Go.Vc
open Go.Proofs
set_option linter.unusedVariables false
set_option linter.unnecessarySimpa false
set_option linter.unusedSimpArgs false
section
variable {c : Ctx} {p nid : Nat} {a b : Code} {st : St} {K : Ex → St → Prop}
/- f91: tusche/serial.spots$1 -/
def f91 (N : Nat) (a0 : Spot) (a1 : Spot) : Option (Int) :=
 (f92 N [a0.State, a0.A, a0.B] [a1.State, a1.A, a1.B]).bind fun x1 =>
 some (x1)
def G91 (ds : List D) (d : D) : Prop := ∃ (N : Nat) (a0 : Spot) (a1 : Spot) (r : Int), ds = [Spot.d a0, Spot.d a1] ∧ f91 N a0 a1 = some r ∧ d = iN r
theorem G91.lend {N : Nat} {a0 : Spot} {a1 : Spot} {ρ : Type} {A : Int → Option ρ} {q : ρ} {ds : List D} {K : D → Prop} (hd : ds = [Spot.d a0, Spot.d a1]) (h : ∀ r, A r = some q → K (iN r)) (hF : (f91 N a0 a1).bind A = some q) : ∃ d, (G91 ds d ∧ d.flatB = true) ∧ K d := by
  obtain ⟨r, hr, hA⟩ := bind_some hF
  exact ⟨_, ⟨⟨N, a0, a1, r, hd, hr, rfl⟩, rfl⟩, h r hA⟩
theorem G91.step {N : Nat} {a0 : Spot} {a1 : Spot} {ρ : Type} {A : Int → Option ρ} {q : ρ} {ds : List D} {K : D → Prop} (hd : ds = [Spot.d a0, Spot.d a1]) (h : ∀ r, A r = some q → K (iN r)) (hF : (f91 N a0 a1).bind A = some q) : ∃ d, G91 ds d ∧ K d := by
  obtain ⟨r, hr, hA⟩ := bind_some hF
  exact ⟨_, ⟨N, a0, a1, r, hd, hr, rfl⟩, h r hA⟩
set_option maxRecDepth 20000 in
set_option maxHeartbeats 4000000 in
theorem P91 : PureOK Try.prog 91 G91 := by
  refine pure_of_vc (c := mkCtx tyTree [(92, true, lendPg [[1], [1]] G92)]) rfl tyOK (ctx_lend (callable Try.func92 rfl rfl) P92 (ctx_nil)) [[0]] 2 Try.func91 rfl rfl (by decide) (by kernel_rfl) ?_
  rintro ds d ⟨N, a0, a1, r, rfl, hF, rfl⟩ hok
  clear hok
  refine ⟨rfl, ?_⟩
  show vc _ _ _ _ ⟨[(0, .dat (Spot.d a0)), (1, .dat (Spot.d a1))], []⟩ _
  unfold f91 at hF
  repeat' (first
    | ((with_reducible first | refine q0 _ _ ?_ | refine q1 _ _ _ _ ?_ | refine q2 _ _ _ ?_); clear Q q0 q1 q2)
    | ((with_reducible first | refine seq_op ?hx (fun Q q0 q1 q2 => ?_)); (case hx => exact rfl); conv => whnf)
    | ((with_reducible refine seq_nil ?_); (first | ((with_reducible refine hR _ ?_); clear R hR) | ((with_reducible refine hL _ ?_); clear L hL)))
    | ((with_reducible first | refine int_step ?_); conv => whnf)
    | (with_reducible first | refine vc_skip ?_ | refine vc_ret ?_ | refine vc_region (fun R hR => ?_) | refine k_seq_ret ?_)
    | ((with_reducible refine vc_seqN [] ?hx ?_); (case hx => exact rfl))
    | (revert hF; (with_reducible refine G92.lend ?hx ?_); (case hx => exact rfl); intro v hF; conv => whnf)
    | ((refine row_all ?hn ?_); (case hn => first | exact rfl | (simp; done) | (simp; omega)); conv => whnf)
    | ((with_reducible refine le_step ?hn ?_); (case hn => first | exact rfl | assumption | omega); conv => whnf)
    | ((refine ⟨?hx, ?_⟩); (case hx => exact ⟨rfl, Nat.le_of_ble_eq_true rfl, rfl⟩); conv => whnf)
    | ((with_reducible refine ex_step ?_); conv => whnf)
    | ((with_reducible refine both_T ?hx ?_); (case hx => first | exact rfl | assumption | exact notT (by assumption)); conv => whnf)
    | ((with_reducible refine both_F ?hx ?_); (case hx => first | exact rfl | assumption | exact notF (by assumption)); conv => whnf)
    | (revert hF; (with_reducible refine ite_step ?_ ?_) <;> (intro hc hF; conv => whnf))
    | (show retD _ _ _ _ _ _; conv => whnf)
    | ((refine ⟨?hx, trivial⟩); (case hx => (cases hF; exact rfl)))
    | ((refine ⟨?hx, ?_⟩); (case hx => decide); conv => whnf)
    | with_reducible refine k_seq ?_
    | (have hF : (none : Option _) = some _ := hF; cases hF))
end
end Go.Vc
namespace Go.Vc
open Go.Proofs
set_option linter.unusedVariables false
set_option linter.unnecessarySimpa false
set_option linter.unusedSimpArgs false
section
variable {c : Ctx} {p nid : Nat} {a b : Code} {st : St} {K : Ex → St → Prop}
/- f98: slices.insertionSortCmpFunc[tusche/serial.Spot] -/
def f98_c2 (s0 : Int) (s1 : Int) (i8' : Int) (r1 : Int → (List Spot) → Option ((List Spot))) (b0' : List Spot) : Option ((List Spot)) :=
 r1 (W ((i8') + (1 : Int))) (b0')
def Lf98_c2 (s0 : Int) (s1 : Int) (i8' : Int) (r1 : Int → (List Spot) → Option ((List Spot))) : Lp ((List Spot)) (Nat) ((List Spot)) := ⟨⟨[0, 1, 2, 3, 8], [0], [], []⟩, fun b0' => [.rs 0 (List.length (b0')), .dat (iN s0), .dat (iN s1), .dat (.v (.func (.func 91) #[] #[])), .dat (iN (i8'))], fun b0' => [.row 73 3 (List.map Spot.d (b0'))], fun b0' => f98_c2 s0 s1 i8' r1 b0', fun _ m0 => [.rs 0 m0, .dat (iN s0), .dat (iN s1), .dat (.v (.func (.func 91) #[] #[])), .dat (iN (i8'))], fun b0' _ => [.row 73 3 (List.map Spot.d (b0'))], fun b0' => List.length (b0'), fun _ => rfl, fun _ => rfl⟩
theorem Ef98_c2 {s0 s1 i8' r1 b0'} : (Lf98_c2 s0 s1 i8' r1).E b0' = f98_c2 s0 s1 i8' r1 b0' := rfl
def f98_4b (r4 : Int → (List Spot) → Option ((List Spot))) (s0 : Int) (s1 : Int) (N : Nat) (i8' : Int) (k0 : (List Spot) → Option ((List Spot))) (j9 : Int) (b0' : List Spot) : Option ((List Spot)) :=
 bif decide (s0 < j9) then ((ix (b0') j9).bind fun x1 =>
 (ix (b0') (W (j9 - (1 : Int)))).bind fun x2 =>
 (f91 N x1 x2).bind fun x3 =>
 bif decide (x3 < (0 : Int)) then ((ix (b0') (W (j9 - (1 : Int)))).bind fun x4 =>
 (ix (b0') j9).bind fun x5 =>
 (ix (b0') j9).bind fun x6 =>
 (setx (b0') j9 x4).bind fun x7 =>
 (ix x7 (W (j9 - (1 : Int)))).bind fun x8 =>
 (setx x7 (W (j9 - (1 : Int))) x5).bind fun x9 =>
 r4 (W (j9 - (1 : Int))) x9)
 else (k0 (b0')))
 else (k0 (b0'))
def f98_4 (s0 : Int) (s1 : Int) (N : Nat) (i8' : Int) (k0 : (List Spot) → Option ((List Spot))) : Nat → Int → (List Spot) → Option ((List Spot))
  | 0, _, _ => none
  | n + 1, j9, b0' => f98_4b (f98_4 s0 s1 N i8' k0 n) s0 s1 N i8' k0 j9 b0'
def Lf98_4 (s0 : Int) (s1 : Int) (N : Nat) (i8' : Int) (k0 : (List Spot) → Option ((List Spot))) : Lp (Nat × Int × (List Spot)) (Nat) ((List Spot)) := ⟨⟨[0, 1, 2, 3, 8, 9], [0], [], []⟩, fun (_, j9, b0') => [.rs 0 (List.length (b0')), .dat (iN s0), .dat (iN s1), .dat (.v (.func (.func 91) #[] #[])), .dat (iN (i8')), .dat (iN j9)], fun (_, _, b0') => [.row 73 3 (List.map Spot.d (b0'))], fun (n, j9, b0') => f98_4 s0 s1 N i8' k0 n j9 b0', fun (_, j9, _) m0 => [.rs 0 m0, .dat (iN s0), .dat (iN s1), .dat (.v (.func (.func 91) #[] #[])), .dat (iN (i8')), .dat (iN j9)], fun (_, _, b0') _ => [.row 73 3 (List.map Spot.d (b0'))], fun (_, _, b0') => List.length (b0'), fun _ => rfl, fun _ => rfl⟩
theorem Ef98_4 {s0 s1 N i8' k0 n j9 b0'} : (Lf98_4 s0 s1 N i8' k0).E (n, j9, b0') = f98_4 s0 s1 N i8' k0 n j9 b0' := rfl
def f98_1b (r1 : Int → (List Spot) → Option ((List Spot))) (s0 : Int) (s1 : Int) (N : Nat) (i8' : Int) (b0 : List Spot) : Option ((List Spot)) :=
 bif decide ((i8') < s1) then (joinK (f98_c2 s0 s1 i8' r1) fun k0 =>
 f98_4 s0 s1 N i8' k0 N (i8') b0)
 else (some (b0))
def f98_1 (s0 : Int) (s1 : Int) (N : Nat) : Nat → Int → (List Spot) → Option ((List Spot))
  | 0, _, _ => none
  | n + 1, i8', b0 => f98_1b (f98_1 s0 s1 N n) s0 s1 N i8' b0
def Lf98_1 (s0 : Int) (s1 : Int) (N : Nat) : Lp (Nat × Int × (List Spot)) (Nat) ((List Spot)) := ⟨⟨[0, 1, 2, 3, 8], [0], [], []⟩, fun (_, i8', b0) => [.rs 0 (List.length b0), .dat (iN s0), .dat (iN s1), .dat (.v (.func (.func 91) #[] #[])), .dat (iN (i8'))], fun (_, _, b0) => [.row 73 3 (List.map Spot.d b0)], fun (n, i8', b0) => f98_1 s0 s1 N n i8' b0, fun (_, i8', _) m0 => [.rs 0 m0, .dat (iN s0), .dat (iN s1), .dat (.v (.func (.func 91) #[] #[])), .dat (iN (i8'))], fun (_, _, b0) _ => [.row 73 3 (List.map Spot.d b0)], fun (_, _, b0) => List.length b0, fun _ => rfl, fun _ => rfl⟩
theorem Ef98_1 {s0 s1 N n i8' b0} : (Lf98_1 s0 s1 N).E (n, i8', b0) = f98_1 s0 s1 N n i8' b0 := rfl
def f98b (self : Int → Int → (List Spot) → Option ((List Spot))) (N : Nat) (s0 : Int) (s1 : Int) (s2 : List Spot) : Option ((List Spot)) :=
 f98_1 s0 s1 N N (W (s0 + (1 : Int))) s2
def f98 : Nat → Int → Int → (List Spot) → Option ((List Spot))
  | 0, _, _, _ => none
  | N + 1, s0, s1, s2 => f98b (f98 N) N s0 s1 s2
def Af98 (s0 : Int) (s1 : Int) (s2 : List Spot) : List SV := [.rs 0 (List.length s2), .dat (iN s0), .dat (iN s1), .dat (.v (.func (.func 91) #[] #[]))]
def Bf98 (s0 : Int) (s1 : Int) (s2 : List Spot) : List Blk := [.row 73 3 (List.map Spot.d s2)]
def Rf98 (y : (List Spot)) : List SV := []
def B1f98 (s0 : Int) (s1 : Int) (s2 : List Spot) (y : (List Spot)) : List Blk := [.row 73 3 (List.map Spot.d y)]
def BZf98 (y : (List Spot)) : Blk := .unborn
def Spf98 : Spec (Int × Int × (List Spot)) ((List Spot)) := ⟨1, fun x => Af98 x.1 x.2.1 x.2.2, fun x => Bf98 x.1 x.2.1 x.2.2, fun _ y => Rf98 y, fun x y => B1f98 x.1 x.2.1 x.2.2 y, fun _ y => BZf98 y⟩
def H98 (N : Nat) (x : Int × Int × (List Spot)) (y : (List Spot)) : Prop := f98 N x.1 x.2.1 x.2.2 = some y
def G98 (x : Int × Int × (List Spot)) (y : (List Spot)) : Prop := ∃ N, H98 N x y
theorem H98.step {N : Nat} {s0 : Int} {s1 : Int} {s2 : List Spot} {m0 : Nat} {ρ : Type} {A : (List Spot) → Option ρ} {q : ρ} {xs : List SV} {id : Nat} {m : Nat → Blk} {l : List Loc} {K : Dl → List Loc → Prop} {k0 : Nat} (ha : xs = [.rs k0 m0, .dat (iN s0), .dat (iN s1), .dat (.v (.func (.func 91) #[] #[]))]) (b0 : m k0 = .row 73 3 (List.map Spot.d s2)) (em0 : m0 = List.length s2) (hu : m id = .unborn) (hn : nodupB [k0] = true) (h : ∀ y, A y = some q → K ⟨.tup [], [(k0, .row 73 3 (List.map Spot.d y)), (id, .unborn)]⟩ l) (hF : (f98 N s0 s1 s2).bind A = some q) : effPg Spf98 (H98 N) xs id (fun _ => SV.no) m l K := by
  subst em0; obtain ⟨y, hy, hA⟩ := bind_some hF
  exact eff_step [k0] (s0, s1, s2) y _ hy rfl hn ha (by simp only [List.map_cons, List.map_nil, b0]; rfl) hu rfl rfl (h y hA)
theorem G98.step {N : Nat} {s0 : Int} {s1 : Int} {s2 : List Spot} {m0 : Nat} {ρ : Type} {A : (List Spot) → Option ρ} {q : ρ} {xs : List SV} {id : Nat} {m : Nat → Blk} {l : List Loc} {K : Dl → List Loc → Prop} {k0 : Nat} (ha : xs = [.rs k0 m0, .dat (iN s0), .dat (iN s1), .dat (.v (.func (.func 91) #[] #[]))]) (b0 : m k0 = .row 73 3 (List.map Spot.d s2)) (em0 : m0 = List.length s2) (hu : m id = .unborn) (hn : nodupB [k0] = true) (h : ∀ y, A y = some q → K ⟨.tup [], [(k0, .row 73 3 (List.map Spot.d y)), (id, .unborn)]⟩ l) (hF : (f98 N s0 s1 s2).bind A = some q) : effPg Spf98 (G98) xs id (fun _ => SV.no) m l K := by
  subst em0; obtain ⟨y, hy, hA⟩ := bind_some hF
  exact eff_step [k0] (s0, s1, s2) y _ ⟨N, hy⟩ rfl hn ha (by simp only [List.map_cons, List.map_nil, b0]; rfl) hu rfl rfl (h y hA)
def Srf98 : Ann := ⟨[], [0, 500], [], []⟩
set_option maxRecDepth 20000 in
set_option maxHeartbeats 4000000 in
theorem Q98 (N : Nat) : CallOK Try.prog 98 (effPg Spf98 (H98 N)) := by
  induction N with
  | zero => exact eff_none fun x y h => (by cases (show (none : Option ((List Spot))) = some y from h))
  | succ N ih =>
    refine eff_of_vc (c := mkCtx tyTree [(98, false, effPg Spf98 (H98 N)), (91, true, lendPg [[0, 0, 0], [0, 0, 0]] G91)]) rfl tyOK (ctx_eff (callable Try.func98 rfl rfl) ih (ctx_lend (callable Try.func91 rfl rfl) P91 (ctx_nil))) 1000 500 Srf98 Try.func98 rfl rfl (by kernel_rfl) rfl rfl rfl rfl rfl (fun _ => rfl) (fun _ => rfl) (fun _ _ => ⟨rfl, rfl⟩) ?_
    rintro ⟨s0, s1, s2⟩ y hF
    have hF : f98b (f98 N) N s0 s1 s2 = some y := hF
    show vc _ _ _ _ ⟨[(0, .rs 0 (List.length s2)), (1, .dat (iN s0)), (2, .dat (iN s1)), (3, .dat (.v (.func (.func 91) #[] #[])))], [(0, .row 73 3 (List.map Spot.d s2))]⟩ _
    unfold f98b at hF
    repeat' (first
      | ((with_reducible first | refine q0 _ _ ?_ | refine q1 _ _ _ _ ?_ | refine q2 _ _ _ ?_); clear Q q0 q1 q2)
      | ((with_reducible first | refine seq_op ?hx (fun Q q0 q1 q2 => ?_) | refine draw_op ?hx (fun Q q0 q1 q2 => ?_) | refine seq_op0 ?hx (fun Q q0 q1 q2 => ?_) | refine draw_op0 ?hx (fun Q q0 q1 q2 => ?_)); (case hx => exact rfl); conv => whnf)
      | ((with_reducible first | refine seq_off ?hx ?_ | refine seq_off0 ?hx ?_ | refine draw_off ?hx ?_ | refine draw_off0 ?hx ?_ | refine k_blk_out ?hx ?_ | refine vc_condT ?hx ?_); (case hx => exact rfl))
      | ((with_reducible refine draw_id ?_); (first | ((first | refine draw_opK rfl ?hy (fun Q q0 q1 q2 => ?_) | refine draw_opK0 rfl ?hy (fun Q q0 q1 q2 => ?_)); (case hy => first | assumption | exact notT (by assumption) | exact rfl); conv => whnf) | ((first | refine draw_offK rfl ?hy ?_ | refine draw_offK0 rfl ?hy ?_); (case hy => first | assumption | exact notF (by assumption) | exact rfl)) | (revert hF; (with_reducible first | refine draw_opF ?hx ?_ ?_ | refine draw_opF0 ?hx ?_ ?_); (case hx => exact rfl); (intro hc hF Q q0 q1 q2; conv => whnf); rotate_left; (intro hc hF); rotate_right) | (revert hF; (with_reducible first | refine draw_opN ?hx ?_ ?_ | refine draw_opN0 ?hx ?_ ?_); (case hx => exact rfl); (intro hc hF); rotate_left; (intro hc hF Q q0 q1 q2; conv => whnf); rotate_right)))
      | ((with_reducible refine cond_id ?_); (first | ((refine condKT rfl ?hy ?_); (case hy => first | assumption | exact notT (by assumption) | exact rfl)) | ((refine condKF rfl ?hy ?_); (case hy => first | assumption | exact notF (by assumption) | exact rfl)) | (revert hF; (with_reducible refine condF ?hx ?_ ?_); (case hx => exact rfl); all_goals (intro hc hF))))
      | ((with_reducible refine seq_nil ?_); (first | ((with_reducible refine hR _ ?_); clear R hR) | ((with_reducible refine hL _ ?_); clear L hL)))
      | ((with_reducible refine draw_nil ?_); (with_reducible refine hR _ _ ?hx ?_); (case hx => kernel_rfl); (first | clear R hR | clear hR))
      | ((with_reducible first | refine int_step ?_ | refine len_step ?_ | refine idx2 (by assumption) ?_ | refine idx3 (by assumption) ?_); conv => whnf)
      | (with_reducible first | refine vc_block ?_ | refine vc_skip ?_ | refine vc_ret ?_ | refine vc_exit ?_ | refine vc_region (fun R hR => ?_) | refine k_seq_ret ?_ | refine k_seq_exit ?_ | refine k_blk ?_ | refine k_blk_ret ?_ | refine k_blk_here ?_ | refine k_loop_ret ?_ | refine k_loop_exit ?_)
      | ((with_reducible refine vc_seqN [1000002] ?hx ?_); (case hx => exact rfl))
      | ((with_reducible refine vc_draw ?hx (fun R hR => ?_)); (case hx => exact rfl))
      | (revert hF; (refine Lp.cut4 Lf98_c2 f98_c2 1000002 rfl rfl ?_ ?_); (intro hF); rotate_left; (rintro b0' hF; dsimp only [Lf98_c2] at hF; unfold f98_c2 at hF); rotate_right)
      | exact Lp.head Ef98_c2 hF _ ⟨_, rfl, rfl, rfl, rfl⟩ (by first | exact rfl | ((try dsimp only [Lf98_c2]); first | assumption | omega | (simp only [List.length_set]; done)))
      | (revert hF; (refine Lp.loop Ef98_4 _ rfl ⟨_, rfl, rfl, rfl, rfl⟩ (by first | exact rfl | ((try dsimp only [Lf98_4]); first | assumption | omega | (simp only [List.length_set]; done))) (fun _ => rfl) ?_); rintro n ⟨j9, b0'⟩ hF; dsimp only [Lf98_4, f98_4] at hF; unfold f98_4b at hF)
      | exact Lp.back Ef98_4 hF _ ⟨_, rfl, rfl, rfl, rfl⟩ (by first | exact rfl | ((try dsimp only [Lf98_4]); first | assumption | omega | (simp only [List.length_set]; done)))
      | (revert hF; (refine Lp.loop Ef98_1 _ rfl ⟨_, rfl, rfl, rfl, rfl⟩ (by first | exact rfl | ((try dsimp only [Lf98_1]); first | assumption | omega | (simp only [List.length_set]; done))) (fun _ => rfl) ?_); rintro n ⟨i8', b0⟩ hF; dsimp only [Lf98_1, f98_1] at hF; unfold f98_1b at hF)
      | exact Lp.back Ef98_1 hF _ ⟨_, rfl, rfl, rfl, rfl⟩ (by first | exact rfl | ((try dsimp only [Lf98_1]); first | assumption | omega | (simp only [List.length_set]; done)))
      | (revert hF; (with_reducible refine G91.lend ?hx ?_); (case hx => exact rfl); intro v hF; conv => whnf)
      | (revert hF; (refine H98.step rfl rfl (by first | exact rfl | assumption | omega | (simp only [List.length_set]; done)) rfl ?hn ?_); (case hn => exact rfl); intro v hF; conv => whnf)
      | (show retE _ _ _ _ _ _; conv => whnf)
      | (cases hF; exact ⟨rfl, rfl, rfl⟩)
      | (revert hF; (with_reducible refine idx1 ?hn ?_); (case hn => first | exact rfl | exact (List.length_map _) | assumption | omega | simp); intro x hx hF; conv => whnf)
      | ((refine row_all ?hn ?_); (case hn => first | exact rfl | (simp; done) | (simp; omega)); conv => whnf)
      | ((with_reducible refine le_step ?hn ?_); (case hn => first | exact rfl | assumption | omega); conv => whnf)
      | ((with_reducible have hG := setx_fact hF); clear hF; (refine setx_step hG ?hs (fun q hl hF => ?_)); (case hs => exact rfl); clear hG; conv => whnf)
      | ((refine ⟨?hx, ?_⟩); (case hx => exact ⟨rfl, Nat.le_of_ble_eq_true rfl, rfl⟩); conv => whnf)
      | ((with_reducible refine ex_step ?_); conv => whnf)
      | ((with_reducible refine both_T ?hx ?_); (case hx => first | exact rfl | assumption | exact notT (by assumption)); conv => whnf)
      | ((with_reducible refine both_F ?hx ?_); (case hx => first | exact rfl | assumption | exact notF (by assumption)); conv => whnf)
      | (revert hF; (with_reducible refine ite_step ?_ ?_) <;> (intro hc hF; conv => whnf))
      | ((with_reducible refine vc_condF ?hx ?_); (case hx => exact rfl))
      | (show retD _ _ _ _ _ _; conv => whnf)
      | ((refine ⟨?hx, trivial⟩); (case hx => (cases hF; exact rfl)))
      | ((refine ⟨?hx, ?_⟩); (case hx => decide); conv => whnf)
      | with_reducible refine k_seq ?_
      | (have hF : (none : Option _) = some _ := hF; cases hF))
theorem P98 : CallOK Try.prog 98 (effPg Spf98 G98) := eff_ex Q98
end
end Go.Vc
namespace Go.Vc
open Go.Proofs
set_option linter.unusedVariables false
set_option linter.unnecessarySimpa false
set_option linter.unusedSimpArgs false
section
variable {c : Ctx} {p nid : Nat} {a b : Code} {st : St} {K : Ex → St → Prop}
/- f109: slices.siftDownCmpFunc[tusche/serial.Spot] -/
def f109_c5 (s1 : Int) (s2 : Int) (N : Nat) (v10 : Int) (b0 : List Spot) (r1 : Int → (List Spot) → Option ((List Spot))) (v11 : Int) : Option ((List Spot)) :=
 (ix b0 (W (s2 + v10))).bind fun x1 =>
 (ix b0 (W (s2 + v11))).bind fun x2 =>
 (f91 N x1 x2).bind fun x3 =>
 bif !(decide (x3 < (0 : Int))) then (some (b0))
 else ((ix b0 (W (s2 + v11))).bind fun x4 =>
 (ix b0 (W (s2 + v10))).bind fun x5 =>
 (ix b0 (W (s2 + v10))).bind fun x6 =>
 (setx b0 (W (s2 + v10)) x4).bind fun x7 =>
 (ix x7 (W (s2 + v11))).bind fun x8 =>
 (setx x7 (W (s2 + v11)) x5).bind fun x9 =>
 r1 v11 x9)
def Lf109_c5 (s1 : Int) (s2 : Int) (N : Nat) (v10 : Int) (b0 : List Spot) (r1 : Int → (List Spot) → Option ((List Spot))) : Lp (Int) (Nat) ((List Spot)) := ⟨⟨[0, 2, 3, 4, 10, 11], [0], [], []⟩, fun v11 => [.rs 0 (List.length b0), .dat (iN s1), .dat (iN s2), .dat (.v (.func (.func 91) #[] #[])), .dat (iN v10), .dat (iN v11)], fun _ => [.row 73 3 (List.map Spot.d b0)], fun v11 => f109_c5 s1 s2 N v10 b0 r1 v11, fun v11 m0 => [.rs 0 m0, .dat (iN s1), .dat (iN s2), .dat (.v (.func (.func 91) #[] #[])), .dat (iN v10), .dat (iN v11)], fun _ _ => [.row 73 3 (List.map Spot.d b0)], fun _ => List.length b0, fun _ => rfl, fun _ => rfl⟩
theorem Ef109_c5 {s1 s2 N v10 b0 r1 v11} : (Lf109_c5 s1 s2 N v10 b0 r1).E v11 = f109_c5 s1 s2 N v10 b0 r1 v11 := rfl
def f109_1b (r1 : Int → (List Spot) → Option ((List Spot))) (s1 : Int) (s2 : Int) (N : Nat) (v10 : Int) (b0 : List Spot) : Option ((List Spot)) :=
 bif decide (s1 ≤ (W ((W ((2 : Int) * v10)) + (1 : Int)))) then (some (b0))
 else (joinK (f109_c5 s1 s2 N v10 b0 r1) fun k0 =>
 bif decide ((W ((W ((W ((2 : Int) * v10)) + (1 : Int))) + (1 : Int))) < s1) then ((ix b0 (W (s2 + (W ((W ((2 : Int) * v10)) + (1 : Int)))))).bind fun x10 =>
 (ix b0 (W ((W (s2 + (W ((W ((2 : Int) * v10)) + (1 : Int))))) + (1 : Int)))).bind fun x11 =>
 (f91 N x10 x11).bind fun x12 =>
 bif decide (x12 < (0 : Int)) then (k0 (W ((W ((W ((2 : Int) * v10)) + (1 : Int))) + (1 : Int))))
 else (k0 (W ((W ((2 : Int) * v10)) + (1 : Int)))))
 else (k0 (W ((W ((2 : Int) * v10)) + (1 : Int)))))
def f109_1 (s1 : Int) (s2 : Int) (N : Nat) : Nat → Int → (List Spot) → Option ((List Spot))
  | 0, _, _ => none
  | n + 1, v10, b0 => f109_1b (f109_1 s1 s2 N n) s1 s2 N v10 b0
def Lf109_1 (s1 : Int) (s2 : Int) (N : Nat) : Lp (Nat × Int × (List Spot)) (Nat) ((List Spot)) := ⟨⟨[0, 2, 3, 4, 10], [0], [], []⟩, fun (_, v10, b0) => [.rs 0 (List.length b0), .dat (iN s1), .dat (iN s2), .dat (.v (.func (.func 91) #[] #[])), .dat (iN v10)], fun (_, _, b0) => [.row 73 3 (List.map Spot.d b0)], fun (n, v10, b0) => f109_1 s1 s2 N n v10 b0, fun (_, v10, _) m0 => [.rs 0 m0, .dat (iN s1), .dat (iN s2), .dat (.v (.func (.func 91) #[] #[])), .dat (iN v10)], fun (_, _, b0) _ => [.row 73 3 (List.map Spot.d b0)], fun (_, _, b0) => List.length b0, fun _ => rfl, fun _ => rfl⟩
theorem Ef109_1 {s1 s2 N n v10 b0} : (Lf109_1 s1 s2 N).E (n, v10, b0) = f109_1 s1 s2 N n v10 b0 := rfl
def f109b (self : Int → Int → Int → (List Spot) → Option ((List Spot))) (N : Nat) (s0 : Int) (s1 : Int) (s2 : Int) (s3 : List Spot) : Option ((List Spot)) :=
 f109_1 s1 s2 N N s0 s3
def f109 : Nat → Int → Int → Int → (List Spot) → Option ((List Spot))
  | 0, _, _, _, _ => none
  | N + 1, s0, s1, s2, s3 => f109b (f109 N) N s0 s1 s2 s3
def Af109 (s0 : Int) (s1 : Int) (s2 : Int) (s3 : List Spot) : List SV := [.rs 0 (List.length s3), .dat (iN s0), .dat (iN s1), .dat (iN s2), .dat (.v (.func (.func 91) #[] #[]))]
def Bf109 (s0 : Int) (s1 : Int) (s2 : Int) (s3 : List Spot) : List Blk := [.row 73 3 (List.map Spot.d s3)]
def Rf109 (y : (List Spot)) : List SV := []
def B1f109 (s0 : Int) (s1 : Int) (s2 : Int) (s3 : List Spot) (y : (List Spot)) : List Blk := [.row 73 3 (List.map Spot.d y)]
def BZf109 (y : (List Spot)) : Blk := .unborn
def Spf109 : Spec (Int × Int × Int × (List Spot)) ((List Spot)) := ⟨1, fun x => Af109 x.1 x.2.1 x.2.2.1 x.2.2.2, fun x => Bf109 x.1 x.2.1 x.2.2.1 x.2.2.2, fun _ y => Rf109 y, fun x y => B1f109 x.1 x.2.1 x.2.2.1 x.2.2.2 y, fun _ y => BZf109 y⟩
def H109 (N : Nat) (x : Int × Int × Int × (List Spot)) (y : (List Spot)) : Prop := f109 N x.1 x.2.1 x.2.2.1 x.2.2.2 = some y
def G109 (x : Int × Int × Int × (List Spot)) (y : (List Spot)) : Prop := ∃ N, H109 N x y
theorem H109.step {N : Nat} {s0 : Int} {s1 : Int} {s2 : Int} {s3 : List Spot} {m0 : Nat} {ρ : Type} {A : (List Spot) → Option ρ} {q : ρ} {xs : List SV} {id : Nat} {m : Nat → Blk} {l : List Loc} {K : Dl → List Loc → Prop} {k0 : Nat} (ha : xs = [.rs k0 m0, .dat (iN s0), .dat (iN s1), .dat (iN s2), .dat (.v (.func (.func 91) #[] #[]))]) (b0 : m k0 = .row 73 3 (List.map Spot.d s3)) (em0 : m0 = List.length s3) (hu : m id = .unborn) (hn : nodupB [k0] = true) (h : ∀ y, A y = some q → K ⟨.tup [], [(k0, .row 73 3 (List.map Spot.d y)), (id, .unborn)]⟩ l) (hF : (f109 N s0 s1 s2 s3).bind A = some q) : effPg Spf109 (H109 N) xs id (fun _ => SV.no) m l K := by
  subst em0; obtain ⟨y, hy, hA⟩ := bind_some hF
  exact eff_step [k0] (s0, s1, s2, s3) y _ hy rfl hn ha (by simp only [List.map_cons, List.map_nil, b0]; rfl) hu rfl rfl (h y hA)
theorem G109.step {N : Nat} {s0 : Int} {s1 : Int} {s2 : Int} {s3 : List Spot} {m0 : Nat} {ρ : Type} {A : (List Spot) → Option ρ} {q : ρ} {xs : List SV} {id : Nat} {m : Nat → Blk} {l : List Loc} {K : Dl → List Loc → Prop} {k0 : Nat} (ha : xs = [.rs k0 m0, .dat (iN s0), .dat (iN s1), .dat (iN s2), .dat (.v (.func (.func 91) #[] #[]))]) (b0 : m k0 = .row 73 3 (List.map Spot.d s3)) (em0 : m0 = List.length s3) (hu : m id = .unborn) (hn : nodupB [k0] = true) (h : ∀ y, A y = some q → K ⟨.tup [], [(k0, .row 73 3 (List.map Spot.d y)), (id, .unborn)]⟩ l) (hF : (f109 N s0 s1 s2 s3).bind A = some q) : effPg Spf109 (G109) xs id (fun _ => SV.no) m l K := by
  subst em0; obtain ⟨y, hy, hA⟩ := bind_some hF
  exact eff_step [k0] (s0, s1, s2, s3) y _ ⟨N, hy⟩ rfl hn ha (by simp only [List.map_cons, List.map_nil, b0]; rfl) hu rfl rfl (h y hA)
def Srf109 : Ann := ⟨[], [0, 500], [], []⟩
set_option maxRecDepth 20000 in
set_option maxHeartbeats 4000000 in
theorem Q109 (N : Nat) : CallOK Try.prog 109 (effPg Spf109 (H109 N)) := by
  induction N with
  | zero => exact eff_none fun x y h => (by cases (show (none : Option ((List Spot))) = some y from h))
  | succ N ih =>
    refine eff_of_vc (c := mkCtx tyTree [(109, false, effPg Spf109 (H109 N)), (91, true, lendPg [[0, 0, 0], [0, 0, 0]] G91)]) rfl tyOK (ctx_eff (callable Try.func109 rfl rfl) ih (ctx_lend (callable Try.func91 rfl rfl) P91 (ctx_nil))) 1000 500 Srf109 Try.func109 rfl rfl (by kernel_rfl) rfl rfl rfl rfl rfl (fun _ => rfl) (fun _ => rfl) (fun _ _ => ⟨rfl, rfl⟩) ?_
    rintro ⟨s0, s1, s2, s3⟩ y hF
    have hF : f109b (f109 N) N s0 s1 s2 s3 = some y := hF
    show vc _ _ _ _ ⟨[(0, .rs 0 (List.length s3)), (1, .dat (iN s0)), (2, .dat (iN s1)), (3, .dat (iN s2)), (4, .dat (.v (.func (.func 91) #[] #[])))], [(0, .row 73 3 (List.map Spot.d s3))]⟩ _
    unfold f109b at hF
    repeat' (first
      | ((with_reducible first | refine q0 _ _ ?_ | refine q1 _ _ _ _ ?_ | refine q2 _ _ _ ?_); clear Q q0 q1 q2)
      | ((with_reducible first | refine seq_op ?hx (fun Q q0 q1 q2 => ?_) | refine draw_op ?hx (fun Q q0 q1 q2 => ?_) | refine seq_op0 ?hx (fun Q q0 q1 q2 => ?_) | refine draw_op0 ?hx (fun Q q0 q1 q2 => ?_)); (case hx => exact rfl); conv => whnf)
      | ((with_reducible first | refine seq_off ?hx ?_ | refine seq_off0 ?hx ?_ | refine draw_off ?hx ?_ | refine draw_off0 ?hx ?_ | refine k_blk_out ?hx ?_ | refine vc_condT ?hx ?_); (case hx => exact rfl))
      | ((with_reducible refine draw_id ?_); (first | ((first | refine draw_opK rfl ?hy (fun Q q0 q1 q2 => ?_) | refine draw_opK0 rfl ?hy (fun Q q0 q1 q2 => ?_)); (case hy => first | assumption | exact notT (by assumption) | exact rfl); conv => whnf) | ((first | refine draw_offK rfl ?hy ?_ | refine draw_offK0 rfl ?hy ?_); (case hy => first | assumption | exact notF (by assumption) | exact rfl)) | (revert hF; (with_reducible first | refine draw_opF ?hx ?_ ?_ | refine draw_opF0 ?hx ?_ ?_); (case hx => exact rfl); (intro hc hF Q q0 q1 q2; conv => whnf); rotate_left; (intro hc hF); rotate_right) | (revert hF; (with_reducible first | refine draw_opN ?hx ?_ ?_ | refine draw_opN0 ?hx ?_ ?_); (case hx => exact rfl); (intro hc hF); rotate_left; (intro hc hF Q q0 q1 q2; conv => whnf); rotate_right)))
      | ((with_reducible refine cond_id ?_); (first | ((refine condKT rfl ?hy ?_); (case hy => first | assumption | exact notT (by assumption) | exact rfl)) | ((refine condKF rfl ?hy ?_); (case hy => first | assumption | exact notF (by assumption) | exact rfl)) | (revert hF; (with_reducible refine condF ?hx ?_ ?_); (case hx => exact rfl); all_goals (intro hc hF))))
      | ((with_reducible refine seq_nil ?_); (first | ((with_reducible refine hR _ ?_); clear R hR) | ((with_reducible refine hL _ ?_); clear L hL)))
      | ((with_reducible refine draw_nil ?_); (with_reducible refine hR _ _ ?hx ?_); (case hx => kernel_rfl); (first | clear R hR | clear hR))
      | ((with_reducible first | refine int_step ?_ | refine len_step ?_ | refine idx2 (by assumption) ?_ | refine idx3 (by assumption) ?_); conv => whnf)
      | (with_reducible first | refine vc_block ?_ | refine vc_skip ?_ | refine vc_ret ?_ | refine vc_exit ?_ | refine vc_region (fun R hR => ?_) | refine k_seq_ret ?_ | refine k_seq_exit ?_ | refine k_blk ?_ | refine k_blk_ret ?_ | refine k_blk_here ?_ | refine k_loop_ret ?_ | refine k_loop_exit ?_)
      | ((with_reducible refine vc_seqN [1000005] ?hx ?_); (case hx => exact rfl))
      | ((with_reducible refine vc_draw ?hx (fun R hR => ?_)); (case hx => exact rfl))
      | (revert hF; (refine Lp.cut6 Lf109_c5 f109_c5 1000005 rfl rfl ?_ ?_); (intro hF); rotate_left; (rintro v11 hF; dsimp only [Lf109_c5] at hF; unfold f109_c5 at hF); rotate_right)
      | exact Lp.head Ef109_c5 hF _ ⟨_, rfl, rfl, rfl, rfl⟩ (by first | exact rfl | ((try dsimp only [Lf109_c5]); first | assumption | omega | (simp only [List.length_set]; done)))
      | (revert hF; (refine Lp.loop Ef109_1 _ rfl ⟨_, rfl, rfl, rfl, rfl⟩ (by first | exact rfl | ((try dsimp only [Lf109_1]); first | assumption | omega | (simp only [List.length_set]; done))) (fun _ => rfl) ?_); rintro n ⟨v10, b0⟩ hF; dsimp only [Lf109_1, f109_1] at hF; unfold f109_1b at hF)
      | exact Lp.back Ef109_1 hF _ ⟨_, rfl, rfl, rfl, rfl⟩ (by first | exact rfl | ((try dsimp only [Lf109_1]); first | assumption | omega | (simp only [List.length_set]; done)))
      | (revert hF; (with_reducible refine G91.lend ?hx ?_); (case hx => exact rfl); intro v hF; conv => whnf)
      | (revert hF; (refine H109.step rfl rfl (by first | exact rfl | assumption | omega | (simp only [List.length_set]; done)) rfl ?hn ?_); (case hn => exact rfl); intro v hF; conv => whnf)
      | (show retE _ _ _ _ _ _; conv => whnf)
      | (cases hF; exact ⟨rfl, rfl, rfl⟩)
      | (revert hF; (with_reducible refine idx1 ?hn ?_); (case hn => first | exact rfl | exact (List.length_map _) | assumption | omega | simp); intro x hx hF; conv => whnf)
      | ((refine row_all ?hn ?_); (case hn => first | exact rfl | (simp; done) | (simp; omega)); conv => whnf)
      | ((with_reducible refine le_step ?hn ?_); (case hn => first | exact rfl | assumption | omega); conv => whnf)
      | ((with_reducible have hG := setx_fact hF); clear hF; (refine setx_step hG ?hs (fun q hl hF => ?_)); (case hs => exact rfl); clear hG; conv => whnf)
      | ((refine ⟨?hx, ?_⟩); (case hx => exact ⟨rfl, Nat.le_of_ble_eq_true rfl, rfl⟩); conv => whnf)
      | ((with_reducible refine ex_step ?_); conv => whnf)
      | ((with_reducible refine both_T ?hx ?_); (case hx => first | exact rfl | assumption | exact notT (by assumption)); conv => whnf)
      | ((with_reducible refine both_F ?hx ?_); (case hx => first | exact rfl | assumption | exact notF (by assumption)); conv => whnf)
      | (revert hF; (with_reducible refine ite_step ?_ ?_) <;> (intro hc hF; conv => whnf))
      | ((with_reducible refine vc_condF ?hx ?_); (case hx => exact rfl))
      | (show retD _ _ _ _ _ _; conv => whnf)
      | ((refine ⟨?hx, trivial⟩); (case hx => (cases hF; exact rfl)))
      | ((refine ⟨?hx, ?_⟩); (case hx => decide); conv => whnf)
      | with_reducible refine k_seq ?_
      | (have hF : (none : Option _) = some _ := hF; cases hF))
theorem P109 : CallOK Try.prog 109 (effPg Spf109 G109) := eff_ex Q109
end
end Go.Vc

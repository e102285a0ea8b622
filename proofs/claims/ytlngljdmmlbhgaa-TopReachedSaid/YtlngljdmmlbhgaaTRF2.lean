/-
  A library for proofs about Go functions by symbolic evaluation, and plain Lean functions that the walked Go functions compute (written by a program of this claim).
-/
import Derived.Test.YtlngljdmmlbhgaaTRF1
import Derived.Test.YtlngljdmmlbhgaaVc3
namespace Go.Vc
open Go.Proofs
set_option linter.unusedVariables false
set_option linter.unnecessarySimpa false
set_option linter.unusedSimpArgs false
section
variable {c : Ctx} {p nid : Nat} {a b : Code} {st : St} {K : Ex → St → Prop}
def f37 (N : Nat) (a0 : Int) : Option (Bool) :=
 (f38 N (-1000000 : Int) a0 (1000000 : Int)).bind fun x1 =>
 some (!x1)
def G37 (ds : List D) (d : D) : Prop := ∃ (N : Nat) (a0 : Int) (r : Bool), ds = [iN a0] ∧ f37 N a0 = some r ∧ d = bN r
theorem G37.lend {N : Nat} {a0 : Int} {ρ : Type} {A : Bool → Option ρ} {q : ρ} {ds : List D} {K : D → Prop} (hd : ds = [iN a0]) (h : ∀ r, A r = some q → K (bN r)) (hF : (f37 N a0).bind A = some q) : ∃ d, (G37 ds d ∧ d.flatB = true) ∧ K d := by
  obtain ⟨r, hr, hA⟩ := bind_some hF
  exact ⟨_, ⟨⟨N, a0, r, hd, hr, rfl⟩, rfl⟩, h r hA⟩
set_option maxRecDepth 20000 in
set_option maxHeartbeats 4000000 in
theorem P37 : PureOK Try.prog 37 G37 := by
  refine pure_of_vc (c := mkCtx tyTree [(38, true, lendPg [[0], [0], [0]] G38)]) rfl tyOK (ctx_lend (callable Try.func38 rfl rfl) P38 (ctx_nil)) [[0]] 1 Try.func37 rfl rfl (by decide) (by kernel_rfl) ?_
  rintro ds d ⟨N, a0, r, rfl, hF, rfl⟩ hok
  clear hok
  refine ⟨rfl, ?_⟩
  show vc _ _ _ _ ⟨[(0, .dat (iN a0))], []⟩ _
  unfold f37 at hF
  repeat' (first
    | ((with_reducible first | refine q0 _ _ ?_ | refine q1 _ _ _ _ ?_ | refine q2 _ _ _ ?_); clear Q q0 q1 q2)
    | ((with_reducible first | refine seq_op ?hx (fun Q q0 q1 q2 => ?_)); (case hx => exact rfl); conv => whnf)
    | ((with_reducible refine seq_nil ?_); (first | ((with_reducible refine hR _ ?_); clear R hR) | ((with_reducible refine hL _ ?_); clear L hL)))
    | ((with_reducible first | refine int_step ?_); conv => whnf)
    | (with_reducible first | refine vc_skip ?_ | refine vc_ret ?_ | refine vc_region (fun R hR => ?_) | refine k_seq_ret ?_)
    | ((with_reducible refine vc_seqN [] ?hx ?_); (case hx => exact rfl))
    | (revert hF; (with_reducible refine G38.lend ?hx ?_); (case hx => exact rfl); intro v hF; conv => whnf)
    | ((refine row_all ?hn ?_); (case hn => first | exact rfl | (simp; done) | (simp; omega)); conv => whnf)
    | ((with_reducible refine le_step ?hn ?_); (case hn => first | exact rfl | assumption | omega); conv => whnf)
    | ((refine ⟨?hx, ?_⟩); (case hx => exact ⟨rfl, Nat.le_of_ble_eq_true rfl, rfl⟩); conv => whnf)
    | ((with_reducible refine ex_step ?_); conv => whnf)
    | ((with_reducible refine both_T ?hx ?_); (case hx => first | exact rfl | assumption | exact notT (by assumption)); conv => whnf)
    | ((with_reducible refine both_F ?hx ?_); (case hx => first | exact rfl | assumption | exact notF (by assumption)); conv => whnf)
    | (revert hF; (with_reducible refine ite_step ?_ ?_) <;> (intro hc hF; conv => whnf))
    | (show retD _ _ _ _ _ _; conv => whnf)
    | ((refine ⟨?hx, trivial⟩); (case hx => (cases hF; exact rfl)))
    | ((refine ⟨?hx, ?_⟩); (case hx => decide); conv => whnf)
    | with_reducible refine k_seq ?_
    | (have hF : (none : Option _) = some _ := hF; cases hF))
end
end Go.Vc
namespace Go.Vc
open Go.Proofs
set_option linter.unusedVariables false
set_option linter.unnecessarySimpa false
set_option linter.unusedSimpArgs false
section
variable {c : Ctx} {p nid : Nat} {a b : Code} {st : St} {K : Ex → St → Prop}
def f16_c18 : Option (Int) :=
 some ((0 : Int))
def Lf16_c18 : Lp (Unit) Unit (Int) := lp0 ⟨[], [], [], []⟩ (fun _ => []) (fun _ => []) (fun _ => f16_c18)
theorem Ef16_c18 : (Lf16_c18).E () = f16_c18 := rfl
def f16_12b (r12 : Int → Option (Int)) (a0 : Rack) (a1 : Motion) (k0 : Option (Int)) (v50 : Int) : Option (Int) :=
 bif decide (v50 < (List.length a0.Braces : Int)) then ((ix a0.Braces v50).bind fun x3 =>
 (ix a1.Rows x3.Row).bind fun x4 =>
 (ix a1.Columns x3.Column).bind fun x5 =>
 bif decide (¬ x3.Kind = (2 : Int)) then (bif decide (x5 < x4) then (some ((13 : Int)))
 else (bif decide (¬ x3.Kind = (1 : Int)) then (bif decide (x4 < x5) then (some ((13 : Int)))
 else (r12 (W (v50 + (1 : Int)))))
 else (r12 (W (v50 + (1 : Int))))))
 else (bif decide (¬ x3.Kind = (1 : Int)) then (bif decide (x4 < x5) then (some ((13 : Int)))
 else (r12 (W (v50 + (1 : Int)))))
 else (r12 (W (v50 + (1 : Int))))))
 else k0
def f16_12 (a0 : Rack) (a1 : Motion) (k0 : Option (Int)) : Nat → Int → Option (Int)
  | 0, _ => none
  | n + 1, v50 => f16_12b (f16_12 a0 a1 k0 n) a0 a1 k0 v50
def Lf16_12 (a0 : Rack) (a1 : Motion) (k0 : Option (Int)) : Lp (Nat × Int) Unit (Int) := lp0 ⟨[3, 48, 49, 50], [1], [], []⟩ (fun (_, v50) => [.ptr 1 0, .dat (sl_Brace a0.Braces), .dat (iN (List.length a0.Braces : Int)), .dat (iN v50)]) (fun (_, _) => [.box [.dat (sl_iN a1.Rows), .dat (sl_iN a1.Columns)]]) (fun (n, v50) => f16_12 a0 a1 k0 n v50)
theorem Ef16_12 {a0 a1 k0 n v50} : (Lf16_12 a0 a1 k0).E (n, v50) = f16_12 a0 a1 k0 n v50 := rfl
def f16_c11 (a0 : Rack) (a1 : Motion) (N : Nat) : Option (Int) :=
 joinK f16_c18 fun k0 =>
 f16_12 a0 a1 k0 N (0 : Int)
def Lf16_c11 (a0 : Rack) (a1 : Motion) (N : Nat) : Lp (Unit) Unit (Int) := lp0 ⟨[2, 3], [0, 1], [], []⟩ (fun _ => [.ptr 0 0, .ptr 1 0]) (fun _ => [.box [.dat (iN a0.Rows), .dat (iN a0.Columns), .dat (sl_Brace a0.Braces)], .box [.dat (sl_iN a1.Rows), .dat (sl_iN a1.Columns)]]) (fun _ => f16_c11 a0 a1 N)
theorem Ef16_c11 {a0 a1 N} : (Lf16_c11 a0 a1 N).E () = f16_c11 a0 a1 N := rfl
def f16_i701_i702000102_c7 (a0 : Rack) (a1 : Motion) (N : Nat) (x2 : List Int) (k1 : Option (Int)) : Option (Int) :=
 (f39 N x2).bind fun x6 =>
 (f40 N x2).bind fun x7 =>
 bif decide (x6 = x7) then (some ((20 : Int)))
 else k1
def Lf16_i701_i702000102_c7 (a0 : Rack) (a1 : Motion) (N : Nat) (x2 : List Int) (k1 : Option (Int)) : Lp (Unit) Unit (Int) := lp0 ⟨[], [0, 1, 204], [], [204]⟩ (fun _ => []) (fun _ => [.box [.dat (iN a0.Rows), .dat (iN a0.Columns), .dat (sl_Brace a0.Braces)], .box [.dat (sl_iN a1.Rows), .dat (sl_iN a1.Columns)], .fz 28 1 (List.map sl_iN [a1.Rows, a1.Columns])]) (fun _ => f16_i701_i702000102_c7 a0 a1 N x2 k1)
theorem Ef16_i701_i702000102_c7 {a0 a1 N x2 k1} : (Lf16_i701_i702000102_c7 a0 a1 N x2 k1).E () = f16_i701_i702000102_c7 a0 a1 N x2 k1 := rfl
def f16_i701_i702000102_2b (r2 : Int → Option (Int)) (a0 : Rack) (a1 : Motion) (N : Nat) (x2 : List Int) (k1 : Option (Int)) (k2 : Option (Int)) (v8 : Int) : Option (Int) :=
 bif decide (v8 < (List.length x2 : Int)) then ((ix x2 v8).bind fun x8 =>
 (f37 N x8).bind fun x9 =>
 bif x9 then (bif decide ((0 : Int) ≤ v8) then (some ((4 : Int)))
 else ((f39 N x2).bind fun x10 =>
 (f40 N x2).bind fun x11 =>
 bif decide (x10 = x11) then (some ((20 : Int)))
 else k1))
 else (r2 (W (v8 + (1 : Int)))))
 else k2
def f16_i701_i702000102_2 (a0 : Rack) (a1 : Motion) (N : Nat) (x2 : List Int) (k1 : Option (Int)) (k2 : Option (Int)) : Nat → Int → Option (Int)
  | 0, _ => none
  | n + 1, v8 => f16_i701_i702000102_2b (f16_i701_i702000102_2 a0 a1 N x2 k1 k2 n) a0 a1 N x2 k1 k2 v8
def Lf16_i701_i702000102_2 (a0 : Rack) (a1 : Motion) (N : Nat) (x2 : List Int) (k1 : Option (Int)) (k2 : Option (Int)) : Lp (Nat × Int) Unit (Int) := lp0 ⟨[0, 1, 7, 8], [0, 1, 204], [], [204]⟩ (fun (_, v8) => [.dat (sl_iN x2), .dat (.v (.func (.func 37) #[] #[])), .dat (iN (List.length x2 : Int)), .dat (iN v8)]) (fun (_, _) => [.box [.dat (iN a0.Rows), .dat (iN a0.Columns), .dat (sl_Brace a0.Braces)], .box [.dat (sl_iN a1.Rows), .dat (sl_iN a1.Columns)], .fz 28 1 (List.map sl_iN [a1.Rows, a1.Columns])]) (fun (n, v8) => f16_i701_i702000102_2 a0 a1 N x2 k1 k2 n v8)
theorem Ef16_i701_i702000102_2 {a0 a1 N x2 k1 k2 n v8} : (Lf16_i701_i702000102_2 a0 a1 N x2 k1 k2).E (n, v8) = f16_i701_i702000102_2 a0 a1 N x2 k1 k2 n v8 := rfl
def f16 (N : Nat) (a0 : Rack) (a1 : Motion) : Option (Int) :=
 (f32 N a0).bind fun x1 =>
 (f35 N [a1.Rows, a1.Columns]).bind fun x2 =>
 joinK (f16_c11 a0 a1 N) fun k1 =>
 bif decide (¬ x1 = (0 : Int)) then (some (x1))
 else (bif decide (¬ (List.length a1.Rows : Int) = a0.Rows) then (some ((3 : Int)))
 else (bif decide (¬ (List.length a1.Columns : Int) = a0.Columns) then (some ((3 : Int)))
 else (joinK (f16_i701_i702000102_c7 a0 a1 N x2 k1) fun k2 =>
 f16_i701_i702000102_2 a0 a1 N x2 k1 k2 N (0 : Int))))
def G16 (ds : List D) (d : D) : Prop := ∃ (N : Nat) (a0 : Rack) (a1 : Motion) (r : Int), ds = [Rack.d a0, Motion.d a1] ∧ f16 N a0 a1 = some r ∧ d = iN r
theorem G16.lend {N : Nat} {a0 : Rack} {a1 : Motion} {ρ : Type} {A : Int → Option ρ} {q : ρ} {ds : List D} {K : D → Prop} (hd : ds = [Rack.d a0, Motion.d a1]) (h : ∀ r, A r = some q → K (iN r)) (hF : (f16 N a0 a1).bind A = some q) : ∃ d, (G16 ds d ∧ d.flatB = true) ∧ K d := by
  obtain ⟨r, hr, hA⟩ := bind_some hF
  exact ⟨_, ⟨⟨N, a0, a1, r, hd, hr, rfl⟩, rfl⟩, h r hA⟩
set_option maxRecDepth 20000 in
set_option maxHeartbeats 4000000 in
theorem P16 : PureOK Try.prog 16 G16 := by
  refine pure_of_vc (c := mkCtx tyTree [(36, false, inlPg (mkCtx tyTree [(56, false, inlPg (mkCtx tyTree [(37, true, lendPg [[0]] G37)]) Try.f56)]) Try.f36), (40, true, lendPg [[1]] G40), (39, true, lendPg [[1]] G39), (35, true, purePg [[1]] G35), (32, true, lendPg [[0, 0, 3]] G32)]) rfl tyOK (ctx_eff (callable Try.func36 rfl rfl) (CallOK.inl rfl tyOK (ctx_eff (callable Try.func56 rfl rfl) (CallOK.inl rfl tyOK (ctx_lend (callable Try.func37 rfl rfl) P37 (ctx_nil)) Try.func56 (by kernel_rfl)) (ctx_nil)) Try.func36 (by kernel_rfl)) (ctx_lend (callable Try.func40 rfl rfl) P40 (ctx_lend (callable Try.func39 rfl rfl) P39 (ctx_cons (callable Try.func35 rfl rfl) P35 (ctx_lend (callable Try.func32 rfl rfl) P32 (ctx_nil)))))) [[0]] 2 Try.func16 rfl rfl (by decide) (by kernel_rfl) ?_
  rintro ds d ⟨N, a0, a1, r, rfl, hF, rfl⟩ hok
  clear hok
  refine ⟨rfl, ?_⟩
  show vc _ _ _ _ ⟨[(0, .dat (Rack.d a0)), (1, .dat (Motion.d a1))], []⟩ _
  unfold f16 at hF
  repeat' (first
    | ((with_reducible first | refine q0 _ _ ?_ | refine q1 _ _ _ _ ?_ | refine q2 _ _ _ ?_); clear Q q0 q1 q2)
    | ((with_reducible first | refine seq_op ?hx (fun Q q0 q1 q2 => ?_) | refine draw_op ?hx (fun Q q0 q1 q2 => ?_) | refine seq_op0 ?hx (fun Q q0 q1 q2 => ?_) | refine draw_op0 ?hx (fun Q q0 q1 q2 => ?_)); (case hx => exact rfl); conv => whnf)
    | ((with_reducible first | refine seq_off ?hx ?_ | refine seq_off0 ?hx ?_ | refine draw_off ?hx ?_ | refine draw_off0 ?hx ?_ | refine k_blk_out ?hx ?_ | refine vc_condT ?hx ?_); (case hx => exact rfl))
    | ((with_reducible refine seq_id ?_); (first | ((first | refine seq_opK rfl ?hy (fun Q q0 q1 q2 => ?_) | refine seq_opK0 rfl ?hy (fun Q q0 q1 q2 => ?_)); (case hy => first | assumption | exact notT (by assumption) | exact rfl); conv => whnf) | ((first | refine seq_offK rfl ?hy ?_ | refine seq_offK0 rfl ?hy ?_); (case hy => first | assumption | exact notF (by assumption) | exact rfl)) | (revert hF; (with_reducible first | refine seq_opF ?hx ?_ ?_ | refine seq_opF0 ?hx ?_ ?_); (case hx => exact rfl); (intro hc hF Q q0 q1 q2; conv => whnf); rotate_left; (intro hc hF); rotate_right) | (revert hF; (with_reducible first | refine seq_opN ?hx ?_ ?_ | refine seq_opN0 ?hx ?_ ?_); (case hx => exact rfl); (intro hc hF); rotate_left; (intro hc hF Q q0 q1 q2; conv => whnf); rotate_right)))
    | ((with_reducible refine cond_id ?_); (first | ((refine condKT rfl ?hy ?_); (case hy => first | assumption | exact notT (by assumption) | exact rfl)) | ((refine condKF rfl ?hy ?_); (case hy => first | assumption | exact notF (by assumption) | exact rfl)) | (revert hF; (with_reducible refine condF ?hx ?_ ?_); (case hx => exact rfl); all_goals (intro hc hF))))
    | ((with_reducible refine seq_nil ?_); (first | ((with_reducible refine hR _ ?_); clear R hR) | ((with_reducible refine hL _ ?_); clear L hL)))
    | ((with_reducible refine draw_nil ?_); (with_reducible refine hR _ _ ?hx ?_); (case hx => kernel_rfl); (first | clear R hR | clear hR))
    | ((with_reducible first | refine int_step ?_ | refine len_step ?_ | refine idx2 (by assumption) ?_ | refine idx3 (by assumption) ?_); conv => whnf)
    | (with_reducible first | refine vc_block ?_ | refine vc_skip ?_ | refine vc_ret ?_ | refine vc_exit ?_ | refine vc_region (fun R hR => ?_) | refine k_seq_ret ?_ | refine k_seq_exit ?_ | refine k_blk ?_ | refine k_blk_ret ?_ | refine k_blk_here ?_ | refine k_loop_ret ?_ | refine k_loop_exit ?_)
    | ((with_reducible refine vc_seqN [18, 11, 702000103000000007] ?hx ?_); (case hx => exact rfl))
    | ((with_reducible refine vc_draw ?hx (fun R hR => ?_)); (case hx => exact rfl))
    | ((with_reducible refine seq_id' ?_); (with_reducible replace hF := chkJ (f := f16_c18) hF); revert hF; (refine Lp.cut0 Lf16_c18 f16_c18 18 rfl rfl ?_ ?_); (intro hF); rotate_left; (rintro _ hF; dsimp only [Lf16_c18] at hF; unfold f16_c18 at hF); rotate_right)
    | ((with_reducible refine head_id ?_); (with_reducible replace hF := chkE (e := f16_c18) hF); exact Lp.head Ef16_c18 hF () ⟨_, rfl, rfl, rfl, rfl⟩ rfl)
    | ((with_reducible refine loop_id ?_); (with_reducible replace hF := chkE (e := f16_12 ..) hF); revert hF; (refine Lp.loop Ef16_12 () rfl ⟨_, rfl, rfl, rfl, rfl⟩ rfl (fun _ => rfl) ?_); rintro n v50 hF; dsimp only [Lf16_12, f16_12] at hF; unfold f16_12b at hF)
    | ((with_reducible refine back_id ?_); (with_reducible replace hF := chkE (e := f16_12 ..) hF); exact Lp.back Ef16_12 hF () ⟨_, rfl, rfl, rfl, rfl⟩ rfl)
    | ((with_reducible refine seq_id' ?_); (with_reducible replace hF := chkJ (f := f16_c11 _ _ _) hF); revert hF; (refine Lp.cut3 Lf16_c11 f16_c11 11 rfl rfl ?_ ?_); (intro hF); rotate_left; (rintro _ hF; dsimp only [Lf16_c11] at hF; unfold f16_c11 at hF); rotate_right)
    | ((with_reducible refine head_id ?_); (with_reducible replace hF := chkE (e := f16_c11 ..) hF); exact Lp.head Ef16_c11 hF () ⟨_, rfl, rfl, rfl, rfl⟩ rfl)
    | ((with_reducible refine seq_id' ?_); (with_reducible replace hF := chkJ (f := f16_i701_i702000102_c7 _ _ _ _ _) hF); revert hF; (refine Lp.cut5 Lf16_i701_i702000102_c7 f16_i701_i702000102_c7 702000103000000007 rfl rfl ?_ ?_); (intro hF); rotate_left; (rintro _ hF; dsimp only [Lf16_i701_i702000102_c7] at hF; unfold f16_i701_i702000102_c7 at hF); rotate_right)
    | ((with_reducible refine head_id ?_); (with_reducible replace hF := chkE (e := f16_i701_i702000102_c7 ..) hF); exact Lp.head Ef16_i701_i702000102_c7 hF () ⟨_, rfl, rfl, rfl, rfl⟩ rfl)
    | ((with_reducible refine loop_id ?_); (with_reducible replace hF := chkE (e := f16_i701_i702000102_2 ..) hF); revert hF; (refine Lp.loop Ef16_i701_i702000102_2 () rfl ⟨_, rfl, rfl, rfl, rfl⟩ rfl (fun _ => rfl) ?_); rintro n v8 hF; dsimp only [Lf16_i701_i702000102_2, f16_i701_i702000102_2] at hF; unfold f16_i701_i702000102_2b at hF)
    | ((with_reducible refine back_id ?_); (with_reducible replace hF := chkE (e := f16_i701_i702000102_2 ..) hF); exact Lp.back Ef16_i701_i702000102_2 hF () ⟨_, rfl, rfl, rfl, rfl⟩ rfl)
    | (revert hF; (with_reducible refine G32.lend ?hx ?_); (case hx => exact rfl); intro v hF; conv => whnf)
    | (revert hF; (with_reducible refine G35.step ?hx ?_); (case hx => exact rfl); intro v hF; conv => whnf)
    | (revert hF; (with_reducible refine G37.lend ?hx ?_); (case hx => exact rfl); intro v hF; conv => whnf)
    | (revert hF; (with_reducible refine G39.lend ?hx ?_); (case hx => exact rfl); intro v hF; conv => whnf)
    | (revert hF; (with_reducible refine G40.lend ?hx ?_); (case hx => exact rfl); intro v hF; conv => whnf)
    | (revert hF; (with_reducible refine idx1 ?hn ?_); (case hn => first | exact rfl | exact (List.length_map _) | assumption | omega | simp); intro x hx hF; conv => whnf)
    | ((refine row_all ?hn ?_); (case hn => first | exact rfl | (simp; done) | (simp; omega)); conv => whnf)
    | ((with_reducible refine le_step ?hn ?_); (case hn => first | exact rfl | assumption | omega); conv => whnf)
    | ((refine ⟨?hx, ?_⟩); (case hx => exact ⟨rfl, Nat.le_of_ble_eq_true rfl, rfl⟩); conv => whnf)
    | ((with_reducible refine ex_step ?_); conv => whnf)
    | ((with_reducible refine both_T ?hx ?_); (case hx => first | exact rfl | assumption | exact notT (by assumption)); conv => whnf)
    | ((with_reducible refine both_F ?hx ?_); (case hx => first | exact rfl | assumption | exact notF (by assumption)); conv => whnf)
    | (revert hF; (with_reducible refine ite_step ?_ ?_) <;> (intro hc hF; conv => whnf))
    | ((with_reducible refine vc_condF ?hx ?_); (case hx => exact rfl))
    | (show retD _ _ _ _ _ _; conv => whnf)
    | ((refine inl_step ?ha ?hb ?hc rfl ?_); (case ha => exact rfl); (case hb => omega); (case hc => exact Nat.le_of_ble_eq_true rfl))
    | (show Kinl _ _ _ _ _ _ _; conv => whnf)
    | ((with_reducible refine kinl_step ?ha ?hb ?_); (case ha => exact rfl); (case hb => exact rfl); conv => whnf)
    | ((refine ⟨?hx, trivial⟩); (case hx => (cases hF; exact rfl)))
    | ((refine ⟨?hx, ?_⟩); (case hx => decide); conv => whnf)
    | with_reducible refine k_seq ?_
    | (have hF : (none : Option _) = some _ := hF; cases hF))
end
end Go.Vc
namespace Go.Vc
open Go.Proofs
set_option linter.unusedVariables false
set_option linter.unnecessarySimpa false
set_option linter.unusedSimpArgs false
section
variable {c : Ctx} {p nid : Nat} {a b : Code} {st : St} {K : Ex → St → Prop}
def f4_c55 (a0 : Int) (N : Nat) (b303_2' : List Brace) (x2 : Bool × Int) (x3 : (List Int) × Int) (b4705_0 : List Int) (b4705_1 : List Int) : Option (Bool) :=
 bif decide ((List.length x3.1 : Int) = (W ((2 : Int) + (Int.tmod a0 (5 : Int))))) then ((f16 N (Rack.mk (W ((2 : Int) + (Int.tmod a0 (5 : Int)))) (W ((2 : Int) + (Int.tmod a0 (5 : Int)))) (b303_2')) (Motion.mk b4705_0 b4705_1)).bind fun x6 =>
 bif decide (x6 = (20 : Int)) then ((f13 N ).bind fun x7 =>
 some (x7))
 else (some (false)))
 else ((f16 N (Rack.mk (W ((2 : Int) + (Int.tmod a0 (5 : Int)))) (W ((2 : Int) + (Int.tmod a0 (5 : Int)))) (b303_2')) (Motion.mk b4705_0 b4705_1)).bind fun x8 =>
 bif decide (x8 = (0 : Int)) then (bif !x2.1 then ((f13 N ).bind fun x9 =>
 some (x9))
 else (some (false)))
 else (some (false)))
def Lf4_c55 (a0 : Int) (N : Nat) (b303_2' : List Brace) (x2 : Bool × Int) (x3 : (List Int) × Int) : Lp ((List Int) × (List Int)) (Nat × Nat × Nat) (Bool) := ⟨⟨[5, 7, 23, 25, 27], [104, 303, 4705, 90500, 90560, 90580], [(.cell 4705 0, 90560, 3, 1), (.cell 4705 1, 90580, 3, 1)], []⟩, fun (_, _) => [.ptr 104 0, .ptr 303 0, .kb x2.1, .dat (sl_iN x3.1), .ptr 4705 0], fun (b4705_0, b4705_1) => [.box [.dat (iN (W ((2 : Int) + (Int.tmod a0 (5 : Int)))))], .box [.dat (iN (W ((2 : Int) + (Int.tmod a0 (5 : Int))))), .dat (iN (W ((2 : Int) + (Int.tmod a0 (5 : Int))))), .rs 90500 (List.length (b303_2'))], .box [.rs 90560 (List.length b4705_0), .rs 90580 (List.length b4705_1)], .row 45 3 (List.map Brace.d (b303_2')), .row 3 1 (List.map iN b4705_0), .row 3 1 (List.map iN b4705_1)], fun (b4705_0, b4705_1) => f4_c55 a0 N b303_2' x2 x3 b4705_0 b4705_1, fun (_, _) (_, _, _) => [.ptr 104 0, .ptr 303 0, .kb x2.1, .dat (sl_iN x3.1), .ptr 4705 0], fun (b4705_0, b4705_1) (m0, m1, m2) => [.box [.dat (iN (W ((2 : Int) + (Int.tmod a0 (5 : Int)))))], .box [.dat (iN (W ((2 : Int) + (Int.tmod a0 (5 : Int))))), .dat (iN (W ((2 : Int) + (Int.tmod a0 (5 : Int))))), .rs 90500 m0], .box [.rs 90560 m1, .rs 90580 m2], .row 45 3 (List.map Brace.d (b303_2')), .row 3 1 (List.map iN b4705_0), .row 3 1 (List.map iN b4705_1)], fun (b4705_0, b4705_1) => (List.length (b303_2'), List.length b4705_0, List.length b4705_1), fun _ => rfl, fun _ => rfl⟩
theorem Ef4_c55 {a0 N b303_2' x2 x3 b4705_0 b4705_1} : (Lf4_c55 a0 N b303_2' x2 x3).E (b4705_0, b4705_1) = f4_c55 a0 N b303_2' x2 x3 b4705_0 b4705_1 := rfl
def f4_49b (r49 : Int → (List Int) → (List Int) → Option (Bool)) (a0 : Int) (b303_2' : List Brace) (x2 : Bool × Int) (x3 : (List Int) × Int) (k0 : (List Int) → (List Int) → Option (Bool)) (v184 : Int) (b4705_0 : List Int) (b4705_1 : List Int) : Option (Bool) :=
 bif decide (v184 < (List.length x3.1 : Int)) then ((ix x3.1 v184).bind fun x10 =>
 bif decide (x10 < (0 : Int)) then (some (false))
 else (bif decide ((W ((2 : Int) + (Int.tmod a0 (5 : Int)))) ≤ x10) then (some (false))
 else ((ix b4705_0 x10).bind fun x11 =>
 (setx b4705_0 x10 (1 : Int)).bind fun x12 =>
 (ix b4705_1 x10).bind fun x13 =>
 (setx b4705_1 x10 (1 : Int)).bind fun x14 =>
 r49 (W (v184 + (1 : Int))) x12 x14)))
 else (k0 b4705_0 b4705_1)
def f4_49 (a0 : Int) (b303_2' : List Brace) (x2 : Bool × Int) (x3 : (List Int) × Int) (k0 : (List Int) → (List Int) → Option (Bool)) : Nat → Int → (List Int) → (List Int) → Option (Bool)
  | 0, _, _, _ => none
  | n + 1, v184, b4705_0, b4705_1 => f4_49b (f4_49 a0 b303_2' x2 x3 k0 n) a0 b303_2' x2 x3 k0 v184 b4705_0 b4705_1
def Lf4_49 (a0 : Int) (b303_2' : List Brace) (x2 : Bool × Int) (x3 : (List Int) × Int) (k0 : (List Int) → (List Int) → Option (Bool)) : Lp (Nat × Int × (List Int) × (List Int)) (Nat × Nat × Nat) (Bool) := ⟨⟨[5, 7, 23, 25, 27, 182, 183, 184], [104, 303, 4705, 90500, 90560, 90580], [(.cell 4705 0, 90560, 3, 1), (.cell 4705 1, 90580, 3, 1)], []⟩, fun (_, v184, _, _) => [.ptr 104 0, .ptr 303 0, .kb x2.1, .dat (sl_iN x3.1), .ptr 4705 0, .dat (sl_iN x3.1), .dat (iN (List.length x3.1 : Int)), .dat (iN v184)], fun (_, _, b4705_0, b4705_1) => [.box [.dat (iN (W ((2 : Int) + (Int.tmod a0 (5 : Int)))))], .box [.dat (iN (W ((2 : Int) + (Int.tmod a0 (5 : Int))))), .dat (iN (W ((2 : Int) + (Int.tmod a0 (5 : Int))))), .rs 90500 (List.length (b303_2'))], .box [.rs 90560 (List.length b4705_0), .rs 90580 (List.length b4705_1)], .row 45 3 (List.map Brace.d (b303_2')), .row 3 1 (List.map iN b4705_0), .row 3 1 (List.map iN b4705_1)], fun (n, v184, b4705_0, b4705_1) => f4_49 a0 b303_2' x2 x3 k0 n v184 b4705_0 b4705_1, fun (_, v184, _, _) (_, _, _) => [.ptr 104 0, .ptr 303 0, .kb x2.1, .dat (sl_iN x3.1), .ptr 4705 0, .dat (sl_iN x3.1), .dat (iN (List.length x3.1 : Int)), .dat (iN v184)], fun (_, _, b4705_0, b4705_1) (m0, m1, m2) => [.box [.dat (iN (W ((2 : Int) + (Int.tmod a0 (5 : Int)))))], .box [.dat (iN (W ((2 : Int) + (Int.tmod a0 (5 : Int))))), .dat (iN (W ((2 : Int) + (Int.tmod a0 (5 : Int))))), .rs 90500 m0], .box [.rs 90560 m1, .rs 90580 m2], .row 45 3 (List.map Brace.d (b303_2')), .row 3 1 (List.map iN b4705_0), .row 3 1 (List.map iN b4705_1)], fun (_, _, b4705_0, b4705_1) => (List.length (b303_2'), List.length b4705_0, List.length b4705_1), fun _ => rfl, fun _ => rfl⟩
theorem Ef4_49 {a0 b303_2' x2 x3 k0 n v184 b4705_0 b4705_1} : (Lf4_49 a0 b303_2' x2 x3 k0).E (n, v184, b4705_0, b4705_1) = f4_49 a0 b303_2' x2 x3 k0 n v184 b4705_0 b4705_1 := rfl
def f4_c43 (a0 : Int) (N : Nat) (b202_1 : List (List Int)) (b303_2' : List Brace) (v12 : Bool) : Option (Bool) :=
 (f15 N (Rack.mk (W ((2 : Int) + (Int.tmod a0 (5 : Int)))) (W ((2 : Int) + (Int.tmod a0 (5 : Int)))) (b303_2'))).bind fun x2 =>
 (f10 N (Palette.mk (W ((2 : Int) + (Int.tmod a0 (5 : Int)))) b202_1)).bind fun x3 =>
 bif decide (¬ x2.2 = (0 : Int)) then (some (false))
 else (bif decide (¬ x3.2 = (0 : Int)) then (some (false))
 else (bif !(x2.1 == v12) then (some (false))
 else ((mkS 8 (0 : Int) (W ((2 : Int) + (Int.tmod a0 (5 : Int)))) (W ((2 : Int) + (Int.tmod a0 (5 : Int))))).bind fun x4 =>
 (mkS 8 (0 : Int) (W ((2 : Int) + (Int.tmod a0 (5 : Int)))) (W ((2 : Int) + (Int.tmod a0 (5 : Int))))).bind fun x5 =>
 joinK (f4_c55 a0 N b303_2' x2 x3) fun k0 =>
 f4_49 a0 b303_2' x2 x3 k0 N (0 : Int) x4 x5)))
def Lf4_c43 (a0 : Int) (N : Nat) (b202_1 : List (List Int)) (b303_2' : List Brace) : Lp (Bool) (Nat × Nat) (Bool) := ⟨⟨[5, 6, 7, 12], [104, 202, 303, 90500, 90520], [], []⟩, fun v12 => [.ptr 104 0, .ptr 202 0, .ptr 303 0, .kb v12], fun _ => [.box [.dat (iN (W ((2 : Int) + (Int.tmod a0 (5 : Int)))))], .box [.dat (iN (W ((2 : Int) + (Int.tmod a0 (5 : Int))))), .rs 90520 (List.length b202_1)], .box [.dat (iN (W ((2 : Int) + (Int.tmod a0 (5 : Int))))), .dat (iN (W ((2 : Int) + (Int.tmod a0 (5 : Int))))), .rs 90500 (List.length (b303_2'))], .row 45 3 (List.map Brace.d (b303_2')), .row 28 1 (List.map sl_iN b202_1)], fun v12 => f4_c43 a0 N b202_1 b303_2' v12, fun v12 (_, _) => [.ptr 104 0, .ptr 202 0, .ptr 303 0, .kb v12], fun _ (m0, m1) => [.box [.dat (iN (W ((2 : Int) + (Int.tmod a0 (5 : Int)))))], .box [.dat (iN (W ((2 : Int) + (Int.tmod a0 (5 : Int))))), .rs 90520 m0], .box [.dat (iN (W ((2 : Int) + (Int.tmod a0 (5 : Int))))), .dat (iN (W ((2 : Int) + (Int.tmod a0 (5 : Int))))), .rs 90500 m1], .row 45 3 (List.map Brace.d (b303_2')), .row 28 1 (List.map sl_iN b202_1)], fun _ => (List.length b202_1, List.length (b303_2')), fun _ => rfl, fun _ => rfl⟩
theorem Ef4_c43 {a0 N b202_1 b303_2' v12} : (Lf4_c43 a0 N b202_1 b303_2').E v12 = f4_c43 a0 N b202_1 b303_2' v12 := rfl
def f4_c41 (a0 : Int) (b202_1 : List (List Int)) (b303_2' : List Brace) (v13_0 : Int) (r22 : Bool → Int → Option (Bool)) (v12' : Bool) : Option (Bool) :=
 r22 (v12') (W (v13_0 + (1 : Int)))
def Lf4_c41 (a0 : Int) (b202_1 : List (List Int)) (b303_2' : List Brace) (v13_0 : Int) (r22 : Bool → Int → Option (Bool)) : Lp (Bool) (Nat × Nat) (Bool) := ⟨⟨[5, 6, 7, 12, 13], [104, 202, 303, 90013, 90500, 90520], [], []⟩, fun v12' => [.ptr 104 0, .ptr 202 0, .ptr 303 0, .kb (v12'), .ptr 90013 0], fun _ => [.box [.dat (iN (W ((2 : Int) + (Int.tmod a0 (5 : Int)))))], .box [.dat (iN (W ((2 : Int) + (Int.tmod a0 (5 : Int))))), .rs 90520 (List.length b202_1)], .box [.dat (iN (W ((2 : Int) + (Int.tmod a0 (5 : Int))))), .dat (iN (W ((2 : Int) + (Int.tmod a0 (5 : Int))))), .rs 90500 (List.length (b303_2'))], .box [.dat (iN v13_0)], .row 45 3 (List.map Brace.d (b303_2')), .row 28 1 (List.map sl_iN b202_1)], fun v12' => f4_c41 a0 b202_1 b303_2' v13_0 r22 v12', fun v12' (_, _) => [.ptr 104 0, .ptr 202 0, .ptr 303 0, .kb (v12'), .ptr 90013 0], fun _ (m0, m1) => [.box [.dat (iN (W ((2 : Int) + (Int.tmod a0 (5 : Int)))))], .box [.dat (iN (W ((2 : Int) + (Int.tmod a0 (5 : Int))))), .rs 90520 m0], .box [.dat (iN (W ((2 : Int) + (Int.tmod a0 (5 : Int))))), .dat (iN (W ((2 : Int) + (Int.tmod a0 (5 : Int))))), .rs 90500 m1], .box [.dat (iN v13_0)], .row 45 3 (List.map Brace.d (b303_2')), .row 28 1 (List.map sl_iN b202_1)], fun _ => (List.length b202_1, List.length (b303_2')), fun _ => rfl, fun _ => rfl⟩
theorem Ef4_c41 {a0 b202_1 b303_2' v13_0 r22 v12'} : (Lf4_c41 a0 b202_1 b303_2' v13_0 r22).E v12' = f4_c41 a0 b202_1 b303_2' v13_0 r22 v12' := rfl
def f4_c37 (a0 : Int) (N : Nat) (b202_1 : List (List Int)) (b303_2' : List Brace) (v12 : Bool) (v13_0 : Int) (k2 : Bool → Option (Bool)) (b2502_1 : List (List Int)) : Option (Bool) :=
 (f10 N (Palette.mk (W ((2 : Int) + (Int.tmod a0 (5 : Int)))) b2502_1)).bind fun x15 =>
 bif decide (¬ x15.2 = (0 : Int)) then (some (false))
 else (bif v12 then (k2 (decide ((List.length x15.1 : Int) = (W ((2 : Int) + (Int.tmod a0 (5 : Int)))))))
 else (k2 false))
def Lf4_c37 (a0 : Int) (N : Nat) (b202_1 : List (List Int)) (b303_2' : List Brace) (v12 : Bool) (v13_0 : Int) (k2 : Bool → Option (Bool)) : Lp ((List (List Int))) (Nat × Nat × Nat) (Bool) := ⟨⟨[5, 6, 7, 12, 13, 15], [104, 202, 303, 2502, 90013, 90500, 90520, 90540], [(.cell 2502 1, 90540, 28, 1)], []⟩, fun _ => [.ptr 104 0, .ptr 202 0, .ptr 303 0, .kb v12, .ptr 90013 0, .ptr 2502 0], fun b2502_1 => [.box [.dat (iN (W ((2 : Int) + (Int.tmod a0 (5 : Int)))))], .box [.dat (iN (W ((2 : Int) + (Int.tmod a0 (5 : Int))))), .rs 90520 (List.length b202_1)], .box [.dat (iN (W ((2 : Int) + (Int.tmod a0 (5 : Int))))), .dat (iN (W ((2 : Int) + (Int.tmod a0 (5 : Int))))), .rs 90500 (List.length (b303_2'))], .box [.dat (iN (W ((2 : Int) + (Int.tmod a0 (5 : Int))))), .rs 90540 (List.length b2502_1)], .box [.dat (iN v13_0)], .row 45 3 (List.map Brace.d (b303_2')), .row 28 1 (List.map sl_iN b202_1), .row 28 1 (List.map sl_iN b2502_1)], fun b2502_1 => f4_c37 a0 N b202_1 b303_2' v12 v13_0 k2 b2502_1, fun _ (_, _, _) => [.ptr 104 0, .ptr 202 0, .ptr 303 0, .kb v12, .ptr 90013 0, .ptr 2502 0], fun b2502_1 (m0, m1, m2) => [.box [.dat (iN (W ((2 : Int) + (Int.tmod a0 (5 : Int)))))], .box [.dat (iN (W ((2 : Int) + (Int.tmod a0 (5 : Int))))), .rs 90520 m0], .box [.dat (iN (W ((2 : Int) + (Int.tmod a0 (5 : Int))))), .dat (iN (W ((2 : Int) + (Int.tmod a0 (5 : Int))))), .rs 90500 m1], .box [.dat (iN (W ((2 : Int) + (Int.tmod a0 (5 : Int))))), .rs 90540 m2], .box [.dat (iN v13_0)], .row 45 3 (List.map Brace.d (b303_2')), .row 28 1 (List.map sl_iN b202_1), .row 28 1 (List.map sl_iN b2502_1)], fun b2502_1 => (List.length b202_1, List.length (b303_2'), List.length b2502_1), fun _ => rfl, fun _ => rfl⟩
theorem Ef4_c37 {a0 N b202_1 b303_2' v12 v13_0 k2 b2502_1} : (Lf4_c37 a0 N b202_1 b303_2' v12 v13_0 k2).E b2502_1 = f4_c37 a0 N b202_1 b303_2' v12 v13_0 k2 b2502_1 := rfl
def f4_c36 (a0 : Int) (b202_1 : List (List Int)) (b303_2' : List Brace) (v12 : Bool) (v13_0 : Int) (v112 : Int) (r27 : Int → (List (List Int)) → Option (Bool)) (b2502_1' : List (List Int)) : Option (Bool) :=
 r27 (W (v112 + (1 : Int))) (b2502_1')
def Lf4_c36 (a0 : Int) (b202_1 : List (List Int)) (b303_2' : List Brace) (v12 : Bool) (v13_0 : Int) (v112 : Int) (r27 : Int → (List (List Int)) → Option (Bool)) : Lp ((List (List Int))) (Nat × Nat × Nat × Nat) (Bool) := ⟨⟨[5, 6, 7, 12, 13, 14, 15, 110, 111, 112], [104, 202, 303, 2502, 90013, 90500, 90520, 90540], [(.cell 2502 1, 90540, 28, 1)], []⟩, fun _ => [.ptr 104 0, .ptr 202 0, .ptr 303 0, .kb v12, .ptr 90013 0, .fn 14 [] [.ptr 90013 0, .ptr 104 0], .ptr 2502 0, .rs 90520 (List.length b202_1), .dat (iN (List.length b202_1 : Int)), .dat (iN v112)], fun b2502_1' => [.box [.dat (iN (W ((2 : Int) + (Int.tmod a0 (5 : Int)))))], .box [.dat (iN (W ((2 : Int) + (Int.tmod a0 (5 : Int))))), .rs 90520 (List.length b202_1)], .box [.dat (iN (W ((2 : Int) + (Int.tmod a0 (5 : Int))))), .dat (iN (W ((2 : Int) + (Int.tmod a0 (5 : Int))))), .rs 90500 (List.length (b303_2'))], .box [.dat (iN (W ((2 : Int) + (Int.tmod a0 (5 : Int))))), .rs 90540 (List.length (b2502_1'))], .box [.dat (iN v13_0)], .row 45 3 (List.map Brace.d (b303_2')), .row 28 1 (List.map sl_iN b202_1), .row 28 1 (List.map sl_iN (b2502_1'))], fun b2502_1' => f4_c36 a0 b202_1 b303_2' v12 v13_0 v112 r27 b2502_1', fun _ (m0, _, _, _) => [.ptr 104 0, .ptr 202 0, .ptr 303 0, .kb v12, .ptr 90013 0, .fn 14 [] [.ptr 90013 0, .ptr 104 0], .ptr 2502 0, .rs 90520 m0, .dat (iN (List.length b202_1 : Int)), .dat (iN v112)], fun b2502_1' (_, m1, m2, m3) => [.box [.dat (iN (W ((2 : Int) + (Int.tmod a0 (5 : Int)))))], .box [.dat (iN (W ((2 : Int) + (Int.tmod a0 (5 : Int))))), .rs 90520 m1], .box [.dat (iN (W ((2 : Int) + (Int.tmod a0 (5 : Int))))), .dat (iN (W ((2 : Int) + (Int.tmod a0 (5 : Int))))), .rs 90500 m2], .box [.dat (iN (W ((2 : Int) + (Int.tmod a0 (5 : Int))))), .rs 90540 m3], .box [.dat (iN v13_0)], .row 45 3 (List.map Brace.d (b303_2')), .row 28 1 (List.map sl_iN b202_1), .row 28 1 (List.map sl_iN (b2502_1'))], fun b2502_1' => (List.length b202_1, List.length b202_1, List.length (b303_2'), List.length (b2502_1')), fun _ => rfl, fun _ => rfl⟩
theorem Ef4_c36 {a0 b202_1 b303_2' v12 v13_0 v112 r27 b2502_1'} : (Lf4_c36 a0 b202_1 b303_2' v12 v13_0 v112 r27).E b2502_1' = f4_c36 a0 b202_1 b303_2' v12 v13_0 v112 r27 b2502_1' := rfl
def f4_c35 (a0 : Int) (b202_1 : List (List Int)) (b303_2' : List Brace) (v12 : Bool) (v13_0 : Int) (v112 : Int) (b2502_1 : List (List Int)) (k4 : (List (List Int)) → Option (Bool)) (v18 : List Int) : Option (Bool) :=
 (app 24 b2502_1 [v18]).bind fun x18 =>
 k4 x18
def Lf4_c35 (a0 : Int) (b202_1 : List (List Int)) (b303_2' : List Brace) (v12 : Bool) (v13_0 : Int) (v112 : Int) (b2502_1 : List (List Int)) (k4 : (List (List Int)) → Option (Bool)) : Lp ((List Int)) (Nat × Nat × Nat × Nat × Nat) (Bool) := ⟨⟨[5, 6, 7, 12, 13, 14, 15, 18, 110, 111, 112], [104, 202, 303, 2502, 90013, 90018, 90500, 90520, 90540], [(.slot 18, 90018, 3, 1)], []⟩, fun v18 => [.ptr 104 0, .ptr 202 0, .ptr 303 0, .kb v12, .ptr 90013 0, .fn 14 [] [.ptr 90013 0, .ptr 104 0], .ptr 2502 0, .rs 90018 (List.length v18), .rs 90520 (List.length b202_1), .dat (iN (List.length b202_1 : Int)), .dat (iN v112)], fun v18 => [.box [.dat (iN (W ((2 : Int) + (Int.tmod a0 (5 : Int)))))], .box [.dat (iN (W ((2 : Int) + (Int.tmod a0 (5 : Int))))), .rs 90520 (List.length b202_1)], .box [.dat (iN (W ((2 : Int) + (Int.tmod a0 (5 : Int))))), .dat (iN (W ((2 : Int) + (Int.tmod a0 (5 : Int))))), .rs 90500 (List.length (b303_2'))], .box [.dat (iN (W ((2 : Int) + (Int.tmod a0 (5 : Int))))), .rs 90540 (List.length b2502_1)], .box [.dat (iN v13_0)], .row 3 1 (List.map iN v18), .row 45 3 (List.map Brace.d (b303_2')), .row 28 1 (List.map sl_iN b202_1), .row 28 1 (List.map sl_iN b2502_1)], fun v18 => f4_c35 a0 b202_1 b303_2' v12 v13_0 v112 b2502_1 k4 v18, fun _ (m0, m1, _, _, _) => [.ptr 104 0, .ptr 202 0, .ptr 303 0, .kb v12, .ptr 90013 0, .fn 14 [] [.ptr 90013 0, .ptr 104 0], .ptr 2502 0, .rs 90018 m0, .rs 90520 m1, .dat (iN (List.length b202_1 : Int)), .dat (iN v112)], fun v18 (_, _, m2, m3, m4) => [.box [.dat (iN (W ((2 : Int) + (Int.tmod a0 (5 : Int)))))], .box [.dat (iN (W ((2 : Int) + (Int.tmod a0 (5 : Int))))), .rs 90520 m2], .box [.dat (iN (W ((2 : Int) + (Int.tmod a0 (5 : Int))))), .dat (iN (W ((2 : Int) + (Int.tmod a0 (5 : Int))))), .rs 90500 m3], .box [.dat (iN (W ((2 : Int) + (Int.tmod a0 (5 : Int))))), .rs 90540 m4], .box [.dat (iN v13_0)], .row 3 1 (List.map iN v18), .row 45 3 (List.map Brace.d (b303_2')), .row 28 1 (List.map sl_iN b202_1), .row 28 1 (List.map sl_iN b2502_1)], fun v18 => (List.length v18, List.length b202_1, List.length b202_1, List.length (b303_2'), List.length b2502_1), fun _ => rfl, fun _ => rfl⟩
theorem Ef4_c35 {a0 b202_1 b303_2' v12 v13_0 v112 b2502_1 k4 v18} : (Lf4_c35 a0 b202_1 b303_2' v12 v13_0 v112 b2502_1 k4).E v18 = f4_c35 a0 b202_1 b303_2' v12 v13_0 v112 b2502_1 k4 v18 := rfl
def f4_31b (r31 : (List Int) → Int → Option (Bool)) (a0 : Int) (b202_1 : List (List Int)) (b303_2' : List Brace) (v12 : Bool) (v13_0 : Int) (v112 : Int) (b2502_1 : List (List Int)) (x16 : List Int) (k5 : (List Int) → Option (Bool)) (v18 : List Int) (v120 : Int) : Option (Bool) :=
 bif decide (v120 < (List.length x16 : Int)) then ((ix x16 v120).bind fun x19 =>
 (chk (decide ((W ((2 : Int) + (Int.tmod a0 (5 : Int)))) ≠ 0))).bind fun _ =>
 (chk (decide ((W ((2 : Int) + (Int.tmod a0 (5 : Int)))) ≠ 0))).bind fun _ =>
 (ix v18 (Int.tmod (W ((W (v120 - v13_0)) + (W ((2 : Int) + (Int.tmod a0 (5 : Int)))))) (W ((2 : Int) + (Int.tmod a0 (5 : Int)))))).bind fun x20 =>
 (setx v18 (Int.tmod (W ((W (v120 - v13_0)) + (W ((2 : Int) + (Int.tmod a0 (5 : Int)))))) (W ((2 : Int) + (Int.tmod a0 (5 : Int))))) (Int.tmod (W ((W (x19 - v13_0)) + (W ((2 : Int) + (Int.tmod a0 (5 : Int)))))) (W ((2 : Int) + (Int.tmod a0 (5 : Int)))))).bind fun x21 =>
 r31 x21 (W (v120 + (1 : Int))))
 else (k5 v18)
def f4_31 (a0 : Int) (b202_1 : List (List Int)) (b303_2' : List Brace) (v12 : Bool) (v13_0 : Int) (v112 : Int) (b2502_1 : List (List Int)) (x16 : List Int) (k5 : (List Int) → Option (Bool)) : Nat → (List Int) → Int → Option (Bool)
  | 0, _, _ => none
  | n + 1, v18, v120 => f4_31b (f4_31 a0 b202_1 b303_2' v12 v13_0 v112 b2502_1 x16 k5 n) a0 b202_1 b303_2' v12 v13_0 v112 b2502_1 x16 k5 v18 v120
def Lf4_31 (a0 : Int) (b202_1 : List (List Int)) (b303_2' : List Brace) (v12 : Bool) (v13_0 : Int) (v112 : Int) (b2502_1 : List (List Int)) (x16 : List Int) (k5 : (List Int) → Option (Bool)) : Lp (Nat × (List Int) × Int) (Nat × Nat × Nat × Nat × Nat) (Bool) := ⟨⟨[5, 6, 7, 12, 13, 14, 15, 18, 110, 111, 112, 118, 119, 120], [104, 202, 303, 2502, 90013, 90018, 90500, 90520, 90540], [(.slot 18, 90018, 3, 1)], []⟩, fun (_, v18, v120) => [.ptr 104 0, .ptr 202 0, .ptr 303 0, .kb v12, .ptr 90013 0, .fn 14 [] [.ptr 90013 0, .ptr 104 0], .ptr 2502 0, .rs 90018 (List.length v18), .rs 90520 (List.length b202_1), .dat (iN (List.length b202_1 : Int)), .dat (iN v112), .dat (sl_iN x16), .dat (iN (List.length x16 : Int)), .dat (iN v120)], fun (_, v18, _) => [.box [.dat (iN (W ((2 : Int) + (Int.tmod a0 (5 : Int)))))], .box [.dat (iN (W ((2 : Int) + (Int.tmod a0 (5 : Int))))), .rs 90520 (List.length b202_1)], .box [.dat (iN (W ((2 : Int) + (Int.tmod a0 (5 : Int))))), .dat (iN (W ((2 : Int) + (Int.tmod a0 (5 : Int))))), .rs 90500 (List.length (b303_2'))], .box [.dat (iN (W ((2 : Int) + (Int.tmod a0 (5 : Int))))), .rs 90540 (List.length b2502_1)], .box [.dat (iN v13_0)], .row 3 1 (List.map iN v18), .row 45 3 (List.map Brace.d (b303_2')), .row 28 1 (List.map sl_iN b202_1), .row 28 1 (List.map sl_iN b2502_1)], fun (n, v18, v120) => f4_31 a0 b202_1 b303_2' v12 v13_0 v112 b2502_1 x16 k5 n v18 v120, fun (_, _, v120) (m0, m1, _, _, _) => [.ptr 104 0, .ptr 202 0, .ptr 303 0, .kb v12, .ptr 90013 0, .fn 14 [] [.ptr 90013 0, .ptr 104 0], .ptr 2502 0, .rs 90018 m0, .rs 90520 m1, .dat (iN (List.length b202_1 : Int)), .dat (iN v112), .dat (sl_iN x16), .dat (iN (List.length x16 : Int)), .dat (iN v120)], fun (_, v18, _) (_, _, m2, m3, m4) => [.box [.dat (iN (W ((2 : Int) + (Int.tmod a0 (5 : Int)))))], .box [.dat (iN (W ((2 : Int) + (Int.tmod a0 (5 : Int))))), .rs 90520 m2], .box [.dat (iN (W ((2 : Int) + (Int.tmod a0 (5 : Int))))), .dat (iN (W ((2 : Int) + (Int.tmod a0 (5 : Int))))), .rs 90500 m3], .box [.dat (iN (W ((2 : Int) + (Int.tmod a0 (5 : Int))))), .rs 90540 m4], .box [.dat (iN v13_0)], .row 3 1 (List.map iN v18), .row 45 3 (List.map Brace.d (b303_2')), .row 28 1 (List.map sl_iN b202_1), .row 28 1 (List.map sl_iN b2502_1)], fun (_, v18, _) => (List.length v18, List.length b202_1, List.length b202_1, List.length (b303_2'), List.length b2502_1), fun _ => rfl, fun _ => rfl⟩
theorem Ef4_31 {a0 b202_1 b303_2' v12 v13_0 v112 b2502_1 x16 k5 n v18 v120} : (Lf4_31 a0 b202_1 b303_2' v12 v13_0 v112 b2502_1 x16 k5).E (n, v18, v120) = f4_31 a0 b202_1 b303_2' v12 v13_0 v112 b2502_1 x16 k5 n v18 v120 := rfl
def f4_27b (r27 : Int → (List (List Int)) → Option (Bool)) (a0 : Int) (N : Nat) (b202_1 : List (List Int)) (b303_2' : List Brace) (v12 : Bool) (v13_0 : Int) (k3 : (List (List Int)) → Option (Bool)) (v112 : Int) (b2502_1 : List (List Int)) : Option (Bool) :=
 bif decide (v112 < (List.length b202_1 : Int)) then (joinK (f4_c36 a0 b202_1 b303_2' v12 v13_0 v112 r27) fun k4 =>
 (ix b202_1 v112).bind fun x16 =>
 (mkS 8 (0 : Int) (W ((2 : Int) + (Int.tmod a0 (5 : Int)))) (W ((2 : Int) + (Int.tmod a0 (5 : Int))))).bind fun x17 =>
 joinK (f4_c35 a0 b202_1 b303_2' v12 v13_0 v112 b2502_1 k4) fun k5 =>
 f4_31 a0 b202_1 b303_2' v12 v13_0 v112 b2502_1 x16 k5 N x17 (0 : Int))
 else (k3 b2502_1)
def f4_27 (a0 : Int) (N : Nat) (b202_1 : List (List Int)) (b303_2' : List Brace) (v12 : Bool) (v13_0 : Int) (k3 : (List (List Int)) → Option (Bool)) : Nat → Int → (List (List Int)) → Option (Bool)
  | 0, _, _ => none
  | n + 1, v112, b2502_1 => f4_27b (f4_27 a0 N b202_1 b303_2' v12 v13_0 k3 n) a0 N b202_1 b303_2' v12 v13_0 k3 v112 b2502_1
def Lf4_27 (a0 : Int) (N : Nat) (b202_1 : List (List Int)) (b303_2' : List Brace) (v12 : Bool) (v13_0 : Int) (k3 : (List (List Int)) → Option (Bool)) : Lp (Nat × Int × (List (List Int))) (Nat × Nat × Nat × Nat) (Bool) := ⟨⟨[5, 6, 7, 12, 13, 14, 15, 110, 111, 112], [104, 202, 303, 2502, 90013, 90500, 90520, 90540], [(.cell 2502 1, 90540, 28, 1)], []⟩, fun (_, v112, _) => [.ptr 104 0, .ptr 202 0, .ptr 303 0, .kb v12, .ptr 90013 0, .fn 14 [] [.ptr 90013 0, .ptr 104 0], .ptr 2502 0, .rs 90520 (List.length b202_1), .dat (iN (List.length b202_1 : Int)), .dat (iN v112)], fun (_, _, b2502_1) => [.box [.dat (iN (W ((2 : Int) + (Int.tmod a0 (5 : Int)))))], .box [.dat (iN (W ((2 : Int) + (Int.tmod a0 (5 : Int))))), .rs 90520 (List.length b202_1)], .box [.dat (iN (W ((2 : Int) + (Int.tmod a0 (5 : Int))))), .dat (iN (W ((2 : Int) + (Int.tmod a0 (5 : Int))))), .rs 90500 (List.length (b303_2'))], .box [.dat (iN (W ((2 : Int) + (Int.tmod a0 (5 : Int))))), .rs 90540 (List.length b2502_1)], .box [.dat (iN v13_0)], .row 45 3 (List.map Brace.d (b303_2')), .row 28 1 (List.map sl_iN b202_1), .row 28 1 (List.map sl_iN b2502_1)], fun (n, v112, b2502_1) => f4_27 a0 N b202_1 b303_2' v12 v13_0 k3 n v112 b2502_1, fun (_, v112, _) (m0, _, _, _) => [.ptr 104 0, .ptr 202 0, .ptr 303 0, .kb v12, .ptr 90013 0, .fn 14 [] [.ptr 90013 0, .ptr 104 0], .ptr 2502 0, .rs 90520 m0, .dat (iN (List.length b202_1 : Int)), .dat (iN v112)], fun (_, _, b2502_1) (_, m1, m2, m3) => [.box [.dat (iN (W ((2 : Int) + (Int.tmod a0 (5 : Int)))))], .box [.dat (iN (W ((2 : Int) + (Int.tmod a0 (5 : Int))))), .rs 90520 m1], .box [.dat (iN (W ((2 : Int) + (Int.tmod a0 (5 : Int))))), .dat (iN (W ((2 : Int) + (Int.tmod a0 (5 : Int))))), .rs 90500 m2], .box [.dat (iN (W ((2 : Int) + (Int.tmod a0 (5 : Int))))), .rs 90540 m3], .box [.dat (iN v13_0)], .row 45 3 (List.map Brace.d (b303_2')), .row 28 1 (List.map sl_iN b202_1), .row 28 1 (List.map sl_iN b2502_1)], fun (_, _, b2502_1) => (List.length b202_1, List.length b202_1, List.length (b303_2'), List.length b2502_1), fun _ => rfl, fun _ => rfl⟩
theorem Ef4_27 {a0 N b202_1 b303_2' v12 v13_0 k3 n v112 b2502_1} : (Lf4_27 a0 N b202_1 b303_2' v12 v13_0 k3).E (n, v112, b2502_1) = f4_27 a0 N b202_1 b303_2' v12 v13_0 k3 n v112 b2502_1 := rfl
def f4_22b (r22 : Bool → Int → Option (Bool)) (a0 : Int) (N : Nat) (b202_1 : List (List Int)) (b303_2' : List Brace) (k1 : Bool → Option (Bool)) (v12 : Bool) (v13_0 : Int) : Option (Bool) :=
 bif decide (v13_0 < (W ((2 : Int) + (Int.tmod a0 (5 : Int))))) then (joinK (f4_c41 a0 b202_1 b303_2' v13_0 r22) fun k2 =>
 joinK (f4_c37 a0 N b202_1 b303_2' v12 v13_0 k2) fun k3 =>
 f4_27 a0 N b202_1 b303_2' v12 v13_0 k3 N (0 : Int) [])
 else (k1 v12)
def f4_22 (a0 : Int) (N : Nat) (b202_1 : List (List Int)) (b303_2' : List Brace) (k1 : Bool → Option (Bool)) : Nat → Bool → Int → Option (Bool)
  | 0, _, _ => none
  | n + 1, v12, v13_0 => f4_22b (f4_22 a0 N b202_1 b303_2' k1 n) a0 N b202_1 b303_2' k1 v12 v13_0
def Lf4_22 (a0 : Int) (N : Nat) (b202_1 : List (List Int)) (b303_2' : List Brace) (k1 : Bool → Option (Bool)) : Lp (Nat × Bool × Int) (Nat × Nat) (Bool) := ⟨⟨[5, 6, 7, 12, 13], [104, 202, 303, 90013, 90500, 90520], [(.slot 13, 90013, 0, 0)], []⟩, fun (_, v12, _) => [.ptr 104 0, .ptr 202 0, .ptr 303 0, .kb v12, .ptr 90013 0], fun (_, _, v13_0) => [.box [.dat (iN (W ((2 : Int) + (Int.tmod a0 (5 : Int)))))], .box [.dat (iN (W ((2 : Int) + (Int.tmod a0 (5 : Int))))), .rs 90520 (List.length b202_1)], .box [.dat (iN (W ((2 : Int) + (Int.tmod a0 (5 : Int))))), .dat (iN (W ((2 : Int) + (Int.tmod a0 (5 : Int))))), .rs 90500 (List.length (b303_2'))], .box [.dat (iN v13_0)], .row 45 3 (List.map Brace.d (b303_2')), .row 28 1 (List.map sl_iN b202_1)], fun (n, v12, v13_0) => f4_22 a0 N b202_1 b303_2' k1 n v12 v13_0, fun (_, v12, _) (_, _) => [.ptr 104 0, .ptr 202 0, .ptr 303 0, .kb v12, .ptr 90013 0], fun (_, _, v13_0) (m0, m1) => [.box [.dat (iN (W ((2 : Int) + (Int.tmod a0 (5 : Int)))))], .box [.dat (iN (W ((2 : Int) + (Int.tmod a0 (5 : Int))))), .rs 90520 m0], .box [.dat (iN (W ((2 : Int) + (Int.tmod a0 (5 : Int))))), .dat (iN (W ((2 : Int) + (Int.tmod a0 (5 : Int))))), .rs 90500 m1], .box [.dat (iN v13_0)], .row 45 3 (List.map Brace.d (b303_2')), .row 28 1 (List.map sl_iN b202_1)], fun (_, _, _) => (List.length b202_1, List.length (b303_2')), fun _ => rfl, fun _ => rfl⟩
theorem Ef4_22 {a0 N b202_1 b303_2' k1 n v12 v13_0} : (Lf4_22 a0 N b202_1 b303_2' k1).E (n, v12, v13_0) = f4_22 a0 N b202_1 b303_2' k1 n v12 v13_0 := rfl
def f4_c18 (a0 : Int) (N : Nat) (b202_1 : List (List Int)) (b303_2' : List Brace) : Option (Bool) :=
 bif decide ((List.length b202_1 : Int) = (0 : Int)) then ((f13 N ).bind fun x1 =>
 some (x1))
 else (joinK (f4_c43 a0 N b202_1 b303_2') fun k1 =>
 f4_22 a0 N b202_1 b303_2' k1 N true (0 : Int))
def Lf4_c18 (a0 : Int) (N : Nat) : Lp ((List (List Int)) × (List Brace)) (Nat × Nat) (Bool) := ⟨⟨[5, 6, 7], [104, 202, 303, 90500, 90520], [(.cell 202 1, 90520, 28, 1), (.cell 303 2, 90500, 45, 3)], []⟩, fun (_, _) => [.ptr 104 0, .ptr 202 0, .ptr 303 0], fun (b202_1, b303_2') => [.box [.dat (iN (W ((2 : Int) + (Int.tmod a0 (5 : Int)))))], .box [.dat (iN (W ((2 : Int) + (Int.tmod a0 (5 : Int))))), .rs 90520 (List.length b202_1)], .box [.dat (iN (W ((2 : Int) + (Int.tmod a0 (5 : Int))))), .dat (iN (W ((2 : Int) + (Int.tmod a0 (5 : Int))))), .rs 90500 (List.length (b303_2'))], .row 45 3 (List.map Brace.d (b303_2')), .row 28 1 (List.map sl_iN b202_1)], fun (b202_1, b303_2') => f4_c18 a0 N b202_1 b303_2', fun (_, _) (_, _) => [.ptr 104 0, .ptr 202 0, .ptr 303 0], fun (b202_1, b303_2') (m0, m1) => [.box [.dat (iN (W ((2 : Int) + (Int.tmod a0 (5 : Int)))))], .box [.dat (iN (W ((2 : Int) + (Int.tmod a0 (5 : Int))))), .rs 90520 m0], .box [.dat (iN (W ((2 : Int) + (Int.tmod a0 (5 : Int))))), .dat (iN (W ((2 : Int) + (Int.tmod a0 (5 : Int))))), .rs 90500 m1], .row 45 3 (List.map Brace.d (b303_2')), .row 28 1 (List.map sl_iN b202_1)], fun (b202_1, b303_2') => (List.length b202_1, List.length (b303_2')), fun _ => rfl, fun _ => rfl⟩
theorem Ef4_c18 {a0 N b202_1 b303_2'} : (Lf4_c18 a0 N).E (b202_1, b303_2') = f4_c18 a0 N b202_1 b303_2' := rfl
def f4_c10 (a0 : Int) (a1 : List A6u8N) (v9 : Int) (r9 : Int → (List (List Int)) → (List Brace) → Option (Bool)) (b202_1' : List (List Int)) (b303_2'' : List Brace) : Option (Bool) :=
 r9 (W (v9 + (1 : Int))) (b202_1') (b303_2'')
def Lf4_c10 (a0 : Int) (a1 : List A6u8N) (v9 : Int) (r9 : Int → (List (List Int)) → (List Brace) → Option (Bool)) : Lp ((List (List Int)) × (List Brace)) (Nat × Nat) (Bool) := ⟨⟨[1, 5, 6, 7, 9], [104, 202, 303, 90500, 90520], [(.cell 202 1, 90520, 28, 1), (.cell 303 2, 90500, 45, 3)], []⟩, fun (_, _) => [.dat (sl_A6u8N a1), .ptr 104 0, .ptr 202 0, .ptr 303 0, .dat (iN v9)], fun (b202_1', b303_2'') => [.box [.dat (iN (W ((2 : Int) + (Int.tmod a0 (5 : Int)))))], .box [.dat (iN (W ((2 : Int) + (Int.tmod a0 (5 : Int))))), .rs 90520 (List.length (b202_1'))], .box [.dat (iN (W ((2 : Int) + (Int.tmod a0 (5 : Int))))), .dat (iN (W ((2 : Int) + (Int.tmod a0 (5 : Int))))), .rs 90500 (List.length (b303_2''))], .row 45 3 (List.map Brace.d (b303_2'')), .row 28 1 (List.map sl_iN (b202_1'))], fun (b202_1', b303_2'') => f4_c10 a0 a1 v9 r9 b202_1' b303_2'', fun (_, _) (_, _) => [.dat (sl_A6u8N a1), .ptr 104 0, .ptr 202 0, .ptr 303 0, .dat (iN v9)], fun (b202_1', b303_2'') (m0, m1) => [.box [.dat (iN (W ((2 : Int) + (Int.tmod a0 (5 : Int)))))], .box [.dat (iN (W ((2 : Int) + (Int.tmod a0 (5 : Int))))), .rs 90520 m0], .box [.dat (iN (W ((2 : Int) + (Int.tmod a0 (5 : Int))))), .dat (iN (W ((2 : Int) + (Int.tmod a0 (5 : Int))))), .rs 90500 m1], .row 45 3 (List.map Brace.d (b303_2'')), .row 28 1 (List.map sl_iN (b202_1'))], fun (b202_1', b303_2'') => (List.length (b202_1'), List.length (b303_2'')), fun _ => rfl, fun _ => rfl⟩
theorem Ef4_c10 {a0 a1 v9 r9 b202_1' b303_2''} : (Lf4_c10 a0 a1 v9 r9).E (b202_1', b303_2'') = f4_c10 a0 a1 v9 r9 b202_1' b303_2'' := rfl
def f4_c17 (a0 : Int) (a1 : List A6u8N) (v9 : Int) (b202_1 : List (List Int)) (k7 : (List (List Int)) → (List Brace) → Option (Bool)) (v10 : List Int) (b303_2'' : List Brace) : Option (Bool) :=
 (app 24 b202_1 [v10]).bind fun x22 =>
 k7 x22 (b303_2'')
def Lf4_c17 (a0 : Int) (a1 : List A6u8N) (v9 : Int) (b202_1 : List (List Int)) (k7 : (List (List Int)) → (List Brace) → Option (Bool)) : Lp ((List Int) × (List Brace)) (Nat × Nat × Nat) (Bool) := ⟨⟨[1, 5, 6, 7, 9, 10], [104, 202, 303, 90010, 90500, 90520], [(.slot 10, 90010, 3, 1), (.cell 303 2, 90500, 45, 3)], []⟩, fun (v10, _) => [.dat (sl_A6u8N a1), .ptr 104 0, .ptr 202 0, .ptr 303 0, .dat (iN v9), .rs 90010 (List.length v10)], fun (v10, b303_2'') => [.box [.dat (iN (W ((2 : Int) + (Int.tmod a0 (5 : Int)))))], .box [.dat (iN (W ((2 : Int) + (Int.tmod a0 (5 : Int))))), .rs 90520 (List.length b202_1)], .box [.dat (iN (W ((2 : Int) + (Int.tmod a0 (5 : Int))))), .dat (iN (W ((2 : Int) + (Int.tmod a0 (5 : Int))))), .rs 90500 (List.length (b303_2''))], .row 3 1 (List.map iN v10), .row 45 3 (List.map Brace.d (b303_2'')), .row 28 1 (List.map sl_iN b202_1)], fun (v10, b303_2'') => f4_c17 a0 a1 v9 b202_1 k7 v10 b303_2'', fun (_, _) (m0, _, _) => [.dat (sl_A6u8N a1), .ptr 104 0, .ptr 202 0, .ptr 303 0, .dat (iN v9), .rs 90010 m0], fun (v10, b303_2'') (_, m1, m2) => [.box [.dat (iN (W ((2 : Int) + (Int.tmod a0 (5 : Int)))))], .box [.dat (iN (W ((2 : Int) + (Int.tmod a0 (5 : Int))))), .rs 90520 m1], .box [.dat (iN (W ((2 : Int) + (Int.tmod a0 (5 : Int))))), .dat (iN (W ((2 : Int) + (Int.tmod a0 (5 : Int))))), .rs 90500 m2], .row 3 1 (List.map iN v10), .row 45 3 (List.map Brace.d (b303_2'')), .row 28 1 (List.map sl_iN b202_1)], fun (v10, b303_2'') => (List.length v10, List.length b202_1, List.length (b303_2'')), fun _ => rfl, fun _ => rfl⟩
theorem Ef4_c17 {a0 a1 v9 b202_1 k7 v10 b303_2''} : (Lf4_c17 a0 a1 v9 b202_1 k7).E (v10, b303_2'') = f4_c17 a0 a1 v9 b202_1 k7 v10 b303_2'' := rfl
def f4_13b (r13 : (List Int) → Int → (List Brace) → Option (Bool)) (a0 : Int) (a1 : List A6u8N) (v9 : Int) (b202_1 : List (List Int)) (k8 : (List Int) → (List Brace) → Option (Bool)) (v10 : List Int) (v11 : Int) (b303_2'' : List Brace) : Option (Bool) :=
 bif decide (v11 < (W ((2 : Int) + (Int.tmod a0 (5 : Int))))) then ((ix a1 v9).bind fun x23 =>
 (chkI 6 v11).bind fun _ =>
 (ixN [x23.e0, x23.e1, x23.e2, x23.e3, x23.e4, x23.e5] (Int.toNat v11)).bind fun x24 =>
 (chk (decide ((W ((2 : Int) + (Int.tmod a0 (5 : Int)))) ≠ 0))).bind fun _ =>
 (app 8 v10 [Int.tmod x24 (W ((2 : Int) + (Int.tmod a0 (5 : Int))))]).bind fun x25 =>
 (ix x25 v11).bind fun x26 =>
 (app 24 (b303_2'') [(Brace.mk v11 x26 (1 : Int))]).bind fun x27 =>
 r13 x25 (W (v11 + (1 : Int))) x27)
 else (k8 v10 (b303_2''))
def f4_13 (a0 : Int) (a1 : List A6u8N) (v9 : Int) (b202_1 : List (List Int)) (k8 : (List Int) → (List Brace) → Option (Bool)) : Nat → (List Int) → Int → (List Brace) → Option (Bool)
  | 0, _, _, _ => none
  | n + 1, v10, v11, b303_2'' => f4_13b (f4_13 a0 a1 v9 b202_1 k8 n) a0 a1 v9 b202_1 k8 v10 v11 b303_2''
def Lf4_13 (a0 : Int) (a1 : List A6u8N) (v9 : Int) (b202_1 : List (List Int)) (k8 : (List Int) → (List Brace) → Option (Bool)) : Lp (Nat × (List Int) × Int × (List Brace)) (Nat × Nat × Nat) (Bool) := ⟨⟨[1, 5, 6, 7, 9, 10, 11], [104, 202, 303, 90010, 90500, 90520], [(.slot 10, 90010, 3, 1), (.cell 303 2, 90500, 45, 3)], []⟩, fun (_, v10, v11, _) => [.dat (sl_A6u8N a1), .ptr 104 0, .ptr 202 0, .ptr 303 0, .dat (iN v9), .rs 90010 (List.length v10), .dat (iN v11)], fun (_, v10, _, b303_2'') => [.box [.dat (iN (W ((2 : Int) + (Int.tmod a0 (5 : Int)))))], .box [.dat (iN (W ((2 : Int) + (Int.tmod a0 (5 : Int))))), .rs 90520 (List.length b202_1)], .box [.dat (iN (W ((2 : Int) + (Int.tmod a0 (5 : Int))))), .dat (iN (W ((2 : Int) + (Int.tmod a0 (5 : Int))))), .rs 90500 (List.length (b303_2''))], .row 3 1 (List.map iN v10), .row 45 3 (List.map Brace.d (b303_2'')), .row 28 1 (List.map sl_iN b202_1)], fun (n, v10, v11, b303_2'') => f4_13 a0 a1 v9 b202_1 k8 n v10 v11 b303_2'', fun (_, _, v11, _) (m0, _, _) => [.dat (sl_A6u8N a1), .ptr 104 0, .ptr 202 0, .ptr 303 0, .dat (iN v9), .rs 90010 m0, .dat (iN v11)], fun (_, v10, _, b303_2'') (_, m1, m2) => [.box [.dat (iN (W ((2 : Int) + (Int.tmod a0 (5 : Int)))))], .box [.dat (iN (W ((2 : Int) + (Int.tmod a0 (5 : Int))))), .rs 90520 m1], .box [.dat (iN (W ((2 : Int) + (Int.tmod a0 (5 : Int))))), .dat (iN (W ((2 : Int) + (Int.tmod a0 (5 : Int))))), .rs 90500 m2], .row 3 1 (List.map iN v10), .row 45 3 (List.map Brace.d (b303_2'')), .row 28 1 (List.map sl_iN b202_1)], fun (_, v10, _, b303_2'') => (List.length v10, List.length b202_1, List.length (b303_2'')), fun _ => rfl, fun _ => rfl⟩
theorem Ef4_13 {a0 a1 v9 b202_1 k8 n v10 v11 b303_2''} : (Lf4_13 a0 a1 v9 b202_1 k8).E (n, v10, v11, b303_2'') = f4_13 a0 a1 v9 b202_1 k8 n v10 v11 b303_2'' := rfl
def f4_9b (r9 : Int → (List (List Int)) → (List Brace) → Option (Bool)) (a0 : Int) (a1 : List A6u8N) (N : Nat) (k6 : (List (List Int)) → (List Brace) → Option (Bool)) (v9 : Int) (b202_1 : List (List Int)) (b303_2' : List Brace) : Option (Bool) :=
 bif decide (v9 < (List.length a1 : Int)) then (bif decide (v9 < (3 : Int)) then (joinK (f4_c10 a0 a1 v9 r9) fun k7 =>
 joinK (f4_c17 a0 a1 v9 b202_1 k7) fun k8 =>
 f4_13 a0 a1 v9 b202_1 k8 N [] (0 : Int) (b303_2'))
 else (k6 b202_1 (b303_2')))
 else (k6 b202_1 (b303_2'))
def f4_9 (a0 : Int) (a1 : List A6u8N) (N : Nat) (k6 : (List (List Int)) → (List Brace) → Option (Bool)) : Nat → Int → (List (List Int)) → (List Brace) → Option (Bool)
  | 0, _, _, _ => none
  | n + 1, v9, b202_1, b303_2' => f4_9b (f4_9 a0 a1 N k6 n) a0 a1 N k6 v9 b202_1 b303_2'
def Lf4_9 (a0 : Int) (a1 : List A6u8N) (N : Nat) (k6 : (List (List Int)) → (List Brace) → Option (Bool)) : Lp (Nat × Int × (List (List Int)) × (List Brace)) (Nat × Nat) (Bool) := ⟨⟨[1, 5, 6, 7, 9], [104, 202, 303, 90500, 90520], [(.cell 202 1, 90520, 28, 1), (.cell 303 2, 90500, 45, 3)], []⟩, fun (_, v9, _, _) => [.dat (sl_A6u8N a1), .ptr 104 0, .ptr 202 0, .ptr 303 0, .dat (iN v9)], fun (_, _, b202_1, b303_2') => [.box [.dat (iN (W ((2 : Int) + (Int.tmod a0 (5 : Int)))))], .box [.dat (iN (W ((2 : Int) + (Int.tmod a0 (5 : Int))))), .rs 90520 (List.length b202_1)], .box [.dat (iN (W ((2 : Int) + (Int.tmod a0 (5 : Int))))), .dat (iN (W ((2 : Int) + (Int.tmod a0 (5 : Int))))), .rs 90500 (List.length (b303_2'))], .row 45 3 (List.map Brace.d (b303_2')), .row 28 1 (List.map sl_iN b202_1)], fun (n, v9, b202_1, b303_2') => f4_9 a0 a1 N k6 n v9 b202_1 b303_2', fun (_, v9, _, _) (_, _) => [.dat (sl_A6u8N a1), .ptr 104 0, .ptr 202 0, .ptr 303 0, .dat (iN v9)], fun (_, _, b202_1, b303_2') (m0, m1) => [.box [.dat (iN (W ((2 : Int) + (Int.tmod a0 (5 : Int)))))], .box [.dat (iN (W ((2 : Int) + (Int.tmod a0 (5 : Int))))), .rs 90520 m0], .box [.dat (iN (W ((2 : Int) + (Int.tmod a0 (5 : Int))))), .dat (iN (W ((2 : Int) + (Int.tmod a0 (5 : Int))))), .rs 90500 m1], .row 45 3 (List.map Brace.d (b303_2')), .row 28 1 (List.map sl_iN b202_1)], fun (_, _, b202_1, b303_2') => (List.length b202_1, List.length (b303_2')), fun _ => rfl, fun _ => rfl⟩
theorem Ef4_9 {a0 a1 N k6 n v9 b202_1 b303_2'} : (Lf4_9 a0 a1 N k6).E (n, v9, b202_1, b303_2') = f4_9 a0 a1 N k6 n v9 b202_1 b303_2' := rfl
def f4_c8 (a0 : Int) (a1 : List A6u8N) (N : Nat) (b303_2 : List Brace) : Option (Bool) :=
 joinK (f4_c18 a0 N) fun k6 =>
 f4_9 a0 a1 N k6 N (0 : Int) [] b303_2
def Lf4_c8 (a0 : Int) (a1 : List A6u8N) (N : Nat) : Lp ((List Brace)) (Nat) (Bool) := ⟨⟨[1, 5, 6, 7], [104, 202, 303, 90500], [(.cell 303 2, 90500, 45, 3)], []⟩, fun _ => [.dat (sl_A6u8N a1), .ptr 104 0, .ptr 202 0, .ptr 303 0], fun b303_2 => [.box [.dat (iN (W ((2 : Int) + (Int.tmod a0 (5 : Int)))))], .box [.dat (iN (W ((2 : Int) + (Int.tmod a0 (5 : Int))))), .nil], .box [.dat (iN (W ((2 : Int) + (Int.tmod a0 (5 : Int))))), .dat (iN (W ((2 : Int) + (Int.tmod a0 (5 : Int))))), .rs 90500 (List.length b303_2)], .row 45 3 (List.map Brace.d b303_2)], fun b303_2 => f4_c8 a0 a1 N b303_2, fun _ _ => [.dat (sl_A6u8N a1), .ptr 104 0, .ptr 202 0, .ptr 303 0], fun b303_2 m0 => [.box [.dat (iN (W ((2 : Int) + (Int.tmod a0 (5 : Int)))))], .box [.dat (iN (W ((2 : Int) + (Int.tmod a0 (5 : Int))))), .nil], .box [.dat (iN (W ((2 : Int) + (Int.tmod a0 (5 : Int))))), .dat (iN (W ((2 : Int) + (Int.tmod a0 (5 : Int))))), .rs 90500 m0], .row 45 3 (List.map Brace.d b303_2)], fun b303_2 => List.length b303_2, fun _ => rfl, fun _ => rfl⟩
theorem Ef4_c8 {a0 a1 N b303_2} : (Lf4_c8 a0 a1 N).E b303_2 = f4_c8 a0 a1 N b303_2 := rfl
def f4_5b (r5 : Int → (List Brace) → Option (Bool)) (a0 : Int) (a1 : List A6u8N) (k9 : (List Brace) → Option (Bool)) (v8 : Int) (b303_2 : List Brace) : Option (Bool) :=
 bif decide (v8 < (W ((2 : Int) + (Int.tmod a0 (5 : Int))))) then ((app 24 b303_2 [(Brace.mk v8 v8 (0 : Int))]).bind fun x28 =>
 r5 (W (v8 + (1 : Int))) x28)
 else (k9 b303_2)
def f4_5 (a0 : Int) (a1 : List A6u8N) (k9 : (List Brace) → Option (Bool)) : Nat → Int → (List Brace) → Option (Bool)
  | 0, _, _ => none
  | n + 1, v8, b303_2 => f4_5b (f4_5 a0 a1 k9 n) a0 a1 k9 v8 b303_2
def Lf4_5 (a0 : Int) (a1 : List A6u8N) (k9 : (List Brace) → Option (Bool)) : Lp (Nat × Int × (List Brace)) (Nat) (Bool) := ⟨⟨[1, 5, 6, 7, 8], [104, 202, 303, 90500], [(.cell 303 2, 90500, 45, 3)], []⟩, fun (_, v8, _) => [.dat (sl_A6u8N a1), .ptr 104 0, .ptr 202 0, .ptr 303 0, .dat (iN v8)], fun (_, _, b303_2) => [.box [.dat (iN (W ((2 : Int) + (Int.tmod a0 (5 : Int)))))], .box [.dat (iN (W ((2 : Int) + (Int.tmod a0 (5 : Int))))), .nil], .box [.dat (iN (W ((2 : Int) + (Int.tmod a0 (5 : Int))))), .dat (iN (W ((2 : Int) + (Int.tmod a0 (5 : Int))))), .rs 90500 (List.length b303_2)], .row 45 3 (List.map Brace.d b303_2)], fun (n, v8, b303_2) => f4_5 a0 a1 k9 n v8 b303_2, fun (_, v8, _) _ => [.dat (sl_A6u8N a1), .ptr 104 0, .ptr 202 0, .ptr 303 0, .dat (iN v8)], fun (_, _, b303_2) m0 => [.box [.dat (iN (W ((2 : Int) + (Int.tmod a0 (5 : Int)))))], .box [.dat (iN (W ((2 : Int) + (Int.tmod a0 (5 : Int))))), .nil], .box [.dat (iN (W ((2 : Int) + (Int.tmod a0 (5 : Int))))), .dat (iN (W ((2 : Int) + (Int.tmod a0 (5 : Int))))), .rs 90500 m0], .row 45 3 (List.map Brace.d b303_2)], fun (_, _, b303_2) => List.length b303_2, fun _ => rfl, fun _ => rfl⟩
theorem Ef4_5 {a0 a1 k9 n v8 b303_2} : (Lf4_5 a0 a1 k9).E (n, v8, b303_2) = f4_5 a0 a1 k9 n v8 b303_2 := rfl
def f4 (N : Nat) (a0 : Int) (a1 : List A6u8N) : Option (Bool) :=
 joinK (f4_c8 a0 a1 N) fun k9 =>
 f4_5 a0 a1 k9 N (0 : Int) []
def G4 (ds : List D) (d : D) : Prop := ∃ (N : Nat) (a0 : Int) (a1 : List A6u8N) (r : Bool), ds = [u8N a0, sl_A6u8N a1] ∧ f4 N a0 a1 = some r ∧ d = bN r
set_option maxRecDepth 20000 in
set_option maxHeartbeats 4000000 in
theorem P4 : PureOK Try.prog 4 G4 := by
  refine pure_of_vc (c := mkCtx tyTree [(14, false, inlPg (mkCtx tyTree []) Try.f14), (16, true, lendPg [[0, 0, 3], [1, 1]] G16), (15, true, lendPg [[0, 0, 3]] G15), (13, true, lendPg [] G13), (10, true, purePg [[0, 1]] G10)]) rfl tyOK (ctx_eff (callable Try.func14 rfl rfl) (CallOK.inl rfl tyOK (ctx_nil) Try.func14 (by kernel_rfl)) (ctx_lend (callable Try.func16 rfl rfl) P16 (ctx_lend (callable Try.func15 rfl rfl) P15 (ctx_lend (callable Try.func13 rfl rfl) P13 (ctx_cons (callable Try.func10 rfl rfl) P10 (ctx_nil)))))) [[0]] 2 Try.func4 rfl rfl (by decide) (by kernel_rfl) ?_
  rintro ds d ⟨N, a0, a1, r, rfl, hF, rfl⟩ hok
  clear hok
  refine ⟨rfl, ?_⟩
  show vc _ _ _ _ ⟨[(0, .dat (u8N a0)), (1, .dat (sl_A6u8N a1))], []⟩ _
  unfold f4 at hF
  repeat' (first
    | ((with_reducible first | refine q0 _ _ ?_ | refine q1 _ _ _ _ ?_ | refine q2 _ _ _ ?_); clear Q q0 q1 q2)
    | ((with_reducible first | refine seq_op ?hx (fun Q q0 q1 q2 => ?_) | refine draw_op ?hx (fun Q q0 q1 q2 => ?_) | refine seq_op0 ?hx (fun Q q0 q1 q2 => ?_) | refine draw_op0 ?hx (fun Q q0 q1 q2 => ?_)); (case hx => exact rfl); conv => whnf)
    | ((with_reducible first | refine seq_off ?hx ?_ | refine seq_off0 ?hx ?_ | refine draw_off ?hx ?_ | refine draw_off0 ?hx ?_ | refine k_blk_out ?hx ?_ | refine vc_condT ?hx ?_); (case hx => exact rfl))
    | ((with_reducible refine seq_id ?_); (first | ((first | refine seq_opK rfl ?hy (fun Q q0 q1 q2 => ?_) | refine seq_opK0 rfl ?hy (fun Q q0 q1 q2 => ?_)); (case hy => first | assumption | exact notT (by assumption) | exact rfl); conv => whnf) | ((first | refine seq_offK rfl ?hy ?_ | refine seq_offK0 rfl ?hy ?_); (case hy => first | assumption | exact notF (by assumption) | exact rfl)) | (revert hF; (with_reducible first | refine seq_opF ?hx ?_ ?_ | refine seq_opF0 ?hx ?_ ?_); (case hx => exact rfl); (intro hc hF Q q0 q1 q2; conv => whnf); rotate_left; (intro hc hF); rotate_right) | (revert hF; (with_reducible first | refine seq_opN ?hx ?_ ?_ | refine seq_opN0 ?hx ?_ ?_); (case hx => exact rfl); (intro hc hF); rotate_left; (intro hc hF Q q0 q1 q2; conv => whnf); rotate_right)))
    | ((with_reducible refine cond_id ?_); (first | ((refine condKT rfl ?hy ?_); (case hy => first | assumption | exact notT (by assumption) | exact rfl)) | ((refine condKF rfl ?hy ?_); (case hy => first | assumption | exact notF (by assumption) | exact rfl)) | (revert hF; (with_reducible refine condF ?hx ?_ ?_); (case hx => exact rfl); all_goals (intro hc hF))))
    | ((with_reducible refine seq_nil ?_); (first | ((with_reducible refine hR _ ?_); clear R hR) | ((with_reducible refine hL _ ?_); clear L hL)))
    | ((with_reducible refine draw_nil ?_); (with_reducible refine hR _ _ ?hx ?_); (case hx => kernel_rfl); (first | clear R hR | clear hR))
    | ((with_reducible first | refine int_step ?_ | refine len_step ?_ | refine idx2 (by assumption) ?_ | refine idx3 (by assumption) ?_); conv => whnf)
    | (with_reducible first | refine vc_block ?_ | refine vc_skip ?_ | refine vc_ret ?_ | refine vc_exit ?_ | refine vc_region (fun R hR => ?_) | refine k_seq_ret ?_ | refine k_seq_exit ?_ | refine k_blk ?_ | refine k_blk_ret ?_ | refine k_blk_here ?_ | refine k_loop_ret ?_ | refine k_loop_exit ?_)
    | ((with_reducible refine vc_seqN [55, 43, 41, 37, 36, 35, 18, 10, 17, 8] ?hx ?_); (case hx => exact rfl))
    | ((with_reducible refine vc_draw ?hx (fun R hR => ?_)); (case hx => exact rfl))
    | ((with_reducible refine seq_id' ?_); (with_reducible replace hF := chkJ (f := f4_c55 _ _ _ _ _) hF); revert hF; (refine Lp.cut5 Lf4_c55 f4_c55 55 rfl rfl ?_ ?_); (intro hF); rotate_left; (rintro ⟨b4705_0, b4705_1⟩ hF; dsimp only [Lf4_c55] at hF; unfold f4_c55 at hF); rotate_right)
    | ((with_reducible refine head_id ?_); (with_reducible replace hF := chkE (e := f4_c55 ..) hF); exact Lp.head Ef4_c55 hF (_, _, _) ⟨_, rfl, rfl, rfl, rfl⟩ (pr2 (by first | exact rfl | ((try dsimp only [Lf4_c55]); first | assumption | omega | (simp only [List.length_set]; done))) (pr2 (by first | exact rfl | ((try dsimp only [Lf4_c55]); first | assumption | omega | (simp only [List.length_set]; done))) (by first | exact rfl | ((try dsimp only [Lf4_c55]); first | assumption | omega | (simp only [List.length_set]; done))))))
    | ((with_reducible refine loop_id ?_); (with_reducible replace hF := chkE (e := f4_49 ..) hF); revert hF; (refine Lp.loop Ef4_49 (_, _, _) rfl ⟨_, rfl, rfl, rfl, rfl⟩ (pr2 (by first | exact rfl | ((try dsimp only [Lf4_49]); first | assumption | omega | (simp only [List.length_set]; done))) (pr2 (by first | exact rfl | ((try dsimp only [Lf4_49]); first | assumption | omega | (simp only [List.length_set]; done))) (by first | exact rfl | ((try dsimp only [Lf4_49]); first | assumption | omega | (simp only [List.length_set]; done))))) (fun _ => rfl) ?_); rintro n ⟨v184, b4705_0, b4705_1⟩ hF; dsimp only [Lf4_49, f4_49] at hF; unfold f4_49b at hF)
    | ((with_reducible refine back_id ?_); (with_reducible replace hF := chkE (e := f4_49 ..) hF); exact Lp.back Ef4_49 hF (_, _, _) ⟨_, rfl, rfl, rfl, rfl⟩ (pr2 (by first | exact rfl | ((try dsimp only [Lf4_49]); first | assumption | omega | (simp only [List.length_set]; done))) (pr2 (by first | exact rfl | ((try dsimp only [Lf4_49]); first | assumption | omega | (simp only [List.length_set]; done))) (by first | exact rfl | ((try dsimp only [Lf4_49]); first | assumption | omega | (simp only [List.length_set]; done))))))
    | ((with_reducible refine seq_id' ?_); (with_reducible replace hF := chkJ (f := f4_c43 _ _ _ _) hF); revert hF; (refine Lp.cut4 Lf4_c43 f4_c43 43 rfl rfl ?_ ?_); (intro hF); rotate_left; (rintro v12 hF; dsimp only [Lf4_c43] at hF; unfold f4_c43 at hF); rotate_right)
    | ((with_reducible refine head_id ?_); (with_reducible replace hF := chkE (e := f4_c43 ..) hF); exact Lp.head Ef4_c43 hF (_, _) ⟨_, rfl, rfl, rfl, rfl⟩ (pr2 (by first | exact rfl | ((try dsimp only [Lf4_c43]); first | assumption | omega | (simp only [List.length_set]; done))) (by first | exact rfl | ((try dsimp only [Lf4_c43]); first | assumption | omega | (simp only [List.length_set]; done)))))
    | ((with_reducible refine seq_id' ?_); (with_reducible replace hF := chkJ (f := f4_c41 _ _ _ _ _) hF); revert hF; (refine Lp.cut5 Lf4_c41 f4_c41 41 rfl rfl ?_ ?_); (intro hF); rotate_left; (rintro v12' hF; dsimp only [Lf4_c41] at hF; unfold f4_c41 at hF); rotate_right)
    | ((with_reducible refine head_id ?_); (with_reducible replace hF := chkE (e := f4_c41 ..) hF); exact Lp.head Ef4_c41 hF (_, _) ⟨_, rfl, rfl, rfl, rfl⟩ (pr2 (by first | exact rfl | ((try dsimp only [Lf4_c41]); first | assumption | omega | (simp only [List.length_set]; done))) (by first | exact rfl | ((try dsimp only [Lf4_c41]); first | assumption | omega | (simp only [List.length_set]; done)))))
    | ((with_reducible refine seq_id' ?_); (with_reducible replace hF := chkJ (f := f4_c37 _ _ _ _ _ _ _) hF); revert hF; (refine Lp.cut7 Lf4_c37 f4_c37 37 rfl rfl ?_ ?_); (intro hF); rotate_left; (rintro b2502_1 hF; dsimp only [Lf4_c37] at hF; unfold f4_c37 at hF); rotate_right)
    | ((with_reducible refine head_id ?_); (with_reducible replace hF := chkE (e := f4_c37 ..) hF); exact Lp.head Ef4_c37 hF (_, _, _) ⟨_, rfl, rfl, rfl, rfl⟩ (pr2 (by first | exact rfl | ((try dsimp only [Lf4_c37]); first | assumption | omega | (simp only [List.length_set]; done))) (pr2 (by first | exact rfl | ((try dsimp only [Lf4_c37]); first | assumption | omega | (simp only [List.length_set]; done))) (by first | exact rfl | ((try dsimp only [Lf4_c37]); first | assumption | omega | (simp only [List.length_set]; done))))))
    | ((with_reducible refine seq_id' ?_); (with_reducible replace hF := chkJ (f := f4_c36 _ _ _ _ _ _ _) hF); revert hF; (refine Lp.cut7 Lf4_c36 f4_c36 36 rfl rfl ?_ ?_); (intro hF); rotate_left; (rintro b2502_1' hF; dsimp only [Lf4_c36] at hF; unfold f4_c36 at hF); rotate_right)
    | ((with_reducible refine head_id ?_); (with_reducible replace hF := chkE (e := f4_c36 ..) hF); exact Lp.head Ef4_c36 hF (_, _, _, _) ⟨_, rfl, rfl, rfl, rfl⟩ (pr2 (by first | exact rfl | ((try dsimp only [Lf4_c36]); first | assumption | omega | (simp only [List.length_set]; done))) (pr2 (by first | exact rfl | ((try dsimp only [Lf4_c36]); first | assumption | omega | (simp only [List.length_set]; done))) (pr2 (by first | exact rfl | ((try dsimp only [Lf4_c36]); first | assumption | omega | (simp only [List.length_set]; done))) (by first | exact rfl | ((try dsimp only [Lf4_c36]); first | assumption | omega | (simp only [List.length_set]; done)))))))
    | ((with_reducible refine seq_id' ?_); (with_reducible replace hF := chkJ (f := f4_c35 _ _ _ _ _ _ _ _) hF); revert hF; (refine Lp.cut8 Lf4_c35 f4_c35 35 rfl rfl ?_ ?_); (intro hF); rotate_left; (rintro v18 hF; dsimp only [Lf4_c35] at hF; unfold f4_c35 at hF); rotate_right)
    | ((with_reducible refine head_id ?_); (with_reducible replace hF := chkE (e := f4_c35 ..) hF); exact Lp.head Ef4_c35 hF (_, _, _, _, _) ⟨_, rfl, rfl, rfl, rfl⟩ (pr2 (by first | exact rfl | ((try dsimp only [Lf4_c35]); first | assumption | omega | (simp only [List.length_set]; done))) (pr2 (by first | exact rfl | ((try dsimp only [Lf4_c35]); first | assumption | omega | (simp only [List.length_set]; done))) (pr2 (by first | exact rfl | ((try dsimp only [Lf4_c35]); first | assumption | omega | (simp only [List.length_set]; done))) (pr2 (by first | exact rfl | ((try dsimp only [Lf4_c35]); first | assumption | omega | (simp only [List.length_set]; done))) (by first | exact rfl | ((try dsimp only [Lf4_c35]); first | assumption | omega | (simp only [List.length_set]; done))))))))
    | ((with_reducible refine loop_id ?_); (with_reducible replace hF := chkE (e := f4_31 ..) hF); revert hF; (refine Lp.loop Ef4_31 (_, _, _, _, _) rfl ⟨_, rfl, rfl, rfl, rfl⟩ (pr2 (by first | exact rfl | ((try dsimp only [Lf4_31]); first | assumption | omega | (simp only [List.length_set]; done))) (pr2 (by first | exact rfl | ((try dsimp only [Lf4_31]); first | assumption | omega | (simp only [List.length_set]; done))) (pr2 (by first | exact rfl | ((try dsimp only [Lf4_31]); first | assumption | omega | (simp only [List.length_set]; done))) (pr2 (by first | exact rfl | ((try dsimp only [Lf4_31]); first | assumption | omega | (simp only [List.length_set]; done))) (by first | exact rfl | ((try dsimp only [Lf4_31]); first | assumption | omega | (simp only [List.length_set]; done))))))) (fun _ => rfl) ?_); rintro n ⟨v18, v120⟩ hF; dsimp only [Lf4_31, f4_31] at hF; unfold f4_31b at hF)
    | ((with_reducible refine back_id ?_); (with_reducible replace hF := chkE (e := f4_31 ..) hF); exact Lp.back Ef4_31 hF (_, _, _, _, _) ⟨_, rfl, rfl, rfl, rfl⟩ (pr2 (by first | exact rfl | ((try dsimp only [Lf4_31]); first | assumption | omega | (simp only [List.length_set]; done))) (pr2 (by first | exact rfl | ((try dsimp only [Lf4_31]); first | assumption | omega | (simp only [List.length_set]; done))) (pr2 (by first | exact rfl | ((try dsimp only [Lf4_31]); first | assumption | omega | (simp only [List.length_set]; done))) (pr2 (by first | exact rfl | ((try dsimp only [Lf4_31]); first | assumption | omega | (simp only [List.length_set]; done))) (by first | exact rfl | ((try dsimp only [Lf4_31]); first | assumption | omega | (simp only [List.length_set]; done))))))))
    | ((with_reducible refine loop_id ?_); (with_reducible replace hF := chkE (e := f4_27 ..) hF); revert hF; (refine Lp.loop Ef4_27 (_, _, _, _) rfl ⟨_, rfl, rfl, rfl, rfl⟩ (pr2 (by first | exact rfl | ((try dsimp only [Lf4_27]); first | assumption | omega | (simp only [List.length_set]; done))) (pr2 (by first | exact rfl | ((try dsimp only [Lf4_27]); first | assumption | omega | (simp only [List.length_set]; done))) (pr2 (by first | exact rfl | ((try dsimp only [Lf4_27]); first | assumption | omega | (simp only [List.length_set]; done))) (by first | exact rfl | ((try dsimp only [Lf4_27]); first | assumption | omega | (simp only [List.length_set]; done)))))) (fun _ => rfl) ?_); rintro n ⟨v112, b2502_1⟩ hF; dsimp only [Lf4_27, f4_27] at hF; unfold f4_27b at hF)
    | ((with_reducible refine back_id ?_); (with_reducible replace hF := chkE (e := f4_27 ..) hF); exact Lp.back Ef4_27 hF (_, _, _, _) ⟨_, rfl, rfl, rfl, rfl⟩ (pr2 (by first | exact rfl | ((try dsimp only [Lf4_27]); first | assumption | omega | (simp only [List.length_set]; done))) (pr2 (by first | exact rfl | ((try dsimp only [Lf4_27]); first | assumption | omega | (simp only [List.length_set]; done))) (pr2 (by first | exact rfl | ((try dsimp only [Lf4_27]); first | assumption | omega | (simp only [List.length_set]; done))) (by first | exact rfl | ((try dsimp only [Lf4_27]); first | assumption | omega | (simp only [List.length_set]; done)))))))
    | ((with_reducible refine loop_id ?_); (with_reducible replace hF := chkE (e := f4_22 ..) hF); revert hF; (refine Lp.loop Ef4_22 (_, _) rfl ⟨_, rfl, rfl, rfl, rfl⟩ (pr2 (by first | exact rfl | ((try dsimp only [Lf4_22]); first | assumption | omega | (simp only [List.length_set]; done))) (by first | exact rfl | ((try dsimp only [Lf4_22]); first | assumption | omega | (simp only [List.length_set]; done)))) (fun _ => rfl) ?_); rintro n ⟨v12, v13_0⟩ hF; dsimp only [Lf4_22, f4_22] at hF; unfold f4_22b at hF)
    | ((with_reducible refine back_id ?_); (with_reducible replace hF := chkE (e := f4_22 ..) hF); exact Lp.back Ef4_22 hF (_, _) ⟨_, rfl, rfl, rfl, rfl⟩ (pr2 (by first | exact rfl | ((try dsimp only [Lf4_22]); first | assumption | omega | (simp only [List.length_set]; done))) (by first | exact rfl | ((try dsimp only [Lf4_22]); first | assumption | omega | (simp only [List.length_set]; done)))))
    | ((with_reducible refine seq_id' ?_); (with_reducible replace hF := chkJ (f := f4_c18 _ _) hF); revert hF; (refine Lp.cut2 Lf4_c18 f4_c18 18 rfl rfl ?_ ?_); (intro hF); rotate_left; (rintro ⟨b202_1, b303_2'⟩ hF; dsimp only [Lf4_c18] at hF; unfold f4_c18 at hF); rotate_right)
    | ((with_reducible refine head_id ?_); (with_reducible replace hF := chkE (e := f4_c18 ..) hF); exact Lp.head Ef4_c18 hF (_, _) ⟨_, rfl, rfl, rfl, rfl⟩ (pr2 (by first | exact rfl | ((try dsimp only [Lf4_c18]); first | assumption | omega | (simp only [List.length_set]; done))) (by first | exact rfl | ((try dsimp only [Lf4_c18]); first | assumption | omega | (simp only [List.length_set]; done)))))
    | ((with_reducible refine seq_id' ?_); (with_reducible replace hF := chkJ (f := f4_c10 _ _ _ _) hF); revert hF; (refine Lp.cut4 Lf4_c10 f4_c10 10 rfl rfl ?_ ?_); (intro hF); rotate_left; (rintro ⟨b202_1', b303_2''⟩ hF; dsimp only [Lf4_c10] at hF; unfold f4_c10 at hF); rotate_right)
    | ((with_reducible refine head_id ?_); (with_reducible replace hF := chkE (e := f4_c10 ..) hF); exact Lp.head Ef4_c10 hF (_, _) ⟨_, rfl, rfl, rfl, rfl⟩ (pr2 (by first | exact rfl | ((try dsimp only [Lf4_c10]); first | assumption | omega | (simp only [List.length_set]; done))) (by first | exact rfl | ((try dsimp only [Lf4_c10]); first | assumption | omega | (simp only [List.length_set]; done)))))
    | ((with_reducible refine seq_id' ?_); (with_reducible replace hF := chkJ (f := f4_c17 _ _ _ _ _) hF); revert hF; (refine Lp.cut5 Lf4_c17 f4_c17 17 rfl rfl ?_ ?_); (intro hF); rotate_left; (rintro ⟨v10, b303_2''⟩ hF; dsimp only [Lf4_c17] at hF; unfold f4_c17 at hF); rotate_right)
    | ((with_reducible refine head_id ?_); (with_reducible replace hF := chkE (e := f4_c17 ..) hF); exact Lp.head Ef4_c17 hF (_, _, _) ⟨_, rfl, rfl, rfl, rfl⟩ (pr2 (by first | exact rfl | ((try dsimp only [Lf4_c17]); first | assumption | omega | (simp only [List.length_set]; done))) (pr2 (by first | exact rfl | ((try dsimp only [Lf4_c17]); first | assumption | omega | (simp only [List.length_set]; done))) (by first | exact rfl | ((try dsimp only [Lf4_c17]); first | assumption | omega | (simp only [List.length_set]; done))))))
    | ((with_reducible refine loop_id ?_); (with_reducible replace hF := chkE (e := f4_13 ..) hF); revert hF; (refine Lp.loop Ef4_13 (_, _, _) rfl ⟨_, rfl, rfl, rfl, rfl⟩ (pr2 (by first | exact rfl | ((try dsimp only [Lf4_13]); first | assumption | omega | (simp only [List.length_set]; done))) (pr2 (by first | exact rfl | ((try dsimp only [Lf4_13]); first | assumption | omega | (simp only [List.length_set]; done))) (by first | exact rfl | ((try dsimp only [Lf4_13]); first | assumption | omega | (simp only [List.length_set]; done))))) (fun _ => rfl) ?_); rintro n ⟨v10, v11, b303_2''⟩ hF; dsimp only [Lf4_13, f4_13] at hF; unfold f4_13b at hF)
    | ((with_reducible refine back_id ?_); (with_reducible replace hF := chkE (e := f4_13 ..) hF); exact Lp.back Ef4_13 hF (_, _, _) ⟨_, rfl, rfl, rfl, rfl⟩ (pr2 (by first | exact rfl | ((try dsimp only [Lf4_13]); first | assumption | omega | (simp only [List.length_set]; done))) (pr2 (by first | exact rfl | ((try dsimp only [Lf4_13]); first | assumption | omega | (simp only [List.length_set]; done))) (by first | exact rfl | ((try dsimp only [Lf4_13]); first | assumption | omega | (simp only [List.length_set]; done))))))
    | ((with_reducible refine loop_id ?_); (with_reducible replace hF := chkE (e := f4_9 ..) hF); revert hF; (refine Lp.loop Ef4_9 (_, _) rfl ⟨_, rfl, rfl, rfl, rfl⟩ (pr2 (by first | exact rfl | ((try dsimp only [Lf4_9]); first | assumption | omega | (simp only [List.length_set]; done))) (by first | exact rfl | ((try dsimp only [Lf4_9]); first | assumption | omega | (simp only [List.length_set]; done)))) (fun _ => rfl) ?_); rintro n ⟨v9, b202_1, b303_2'⟩ hF; dsimp only [Lf4_9, f4_9] at hF; unfold f4_9b at hF)
    | ((with_reducible refine back_id ?_); (with_reducible replace hF := chkE (e := f4_9 ..) hF); exact Lp.back Ef4_9 hF (_, _) ⟨_, rfl, rfl, rfl, rfl⟩ (pr2 (by first | exact rfl | ((try dsimp only [Lf4_9]); first | assumption | omega | (simp only [List.length_set]; done))) (by first | exact rfl | ((try dsimp only [Lf4_9]); first | assumption | omega | (simp only [List.length_set]; done)))))
    | ((with_reducible refine seq_id' ?_); (with_reducible replace hF := chkJ (f := f4_c8 _ _ _) hF); revert hF; (refine Lp.cut3 Lf4_c8 f4_c8 8 rfl rfl ?_ ?_); (intro hF); rotate_left; (rintro b303_2 hF; dsimp only [Lf4_c8] at hF; unfold f4_c8 at hF); rotate_right)
    | ((with_reducible refine head_id ?_); (with_reducible replace hF := chkE (e := f4_c8 ..) hF); exact Lp.head Ef4_c8 hF _ ⟨_, rfl, rfl, rfl, rfl⟩ (by first | exact rfl | ((try dsimp only [Lf4_c8]); first | assumption | omega | (simp only [List.length_set]; done))))
    | ((with_reducible refine loop_id ?_); (with_reducible replace hF := chkE (e := f4_5 ..) hF); revert hF; (refine Lp.loop Ef4_5 _ rfl ⟨_, rfl, rfl, rfl, rfl⟩ (by first | exact rfl | ((try dsimp only [Lf4_5]); first | assumption | omega | (simp only [List.length_set]; done))) (fun _ => rfl) ?_); rintro n ⟨v8, b303_2⟩ hF; dsimp only [Lf4_5, f4_5] at hF; unfold f4_5b at hF)
    | ((with_reducible refine back_id ?_); (with_reducible replace hF := chkE (e := f4_5 ..) hF); exact Lp.back Ef4_5 hF _ ⟨_, rfl, rfl, rfl, rfl⟩ (by first | exact rfl | ((try dsimp only [Lf4_5]); first | assumption | omega | (simp only [List.length_set]; done))))
    | (revert hF; (with_reducible refine G10.step ?hx ?_); (case hx => exact rfl); intro v hF; conv => whnf)
    | (revert hF; (with_reducible refine G13.lend ?hx ?_); (case hx => exact rfl); intro v hF; conv => whnf)
    | (revert hF; (with_reducible refine G15.lend ?hx ?_); (case hx => exact rfl); intro v hF; conv => whnf)
    | (revert hF; (with_reducible refine G16.lend ?hx ?_); (case hx => exact rfl); intro v hF; conv => whnf)
    | (revert hF; (refine mkS_row (d := iN) ?hz ?_); (case hz => exact rfl); intro x hF; conv => whnf)
    | ((with_reducible have hG := ixN_fact hF); clear hF; (refine epix_step (d := u8N) hG rfl (fun x rest hF => ?_)); clear hG; conv => whnf)
    | ((with_reducible refine chkI_go hF ?_); (clear hF; intro hF; conv => whnf))
    | ((with_reducible have hG := ixN_fact hF); clear hF; (first | (refine ixN_one hG (by (try simp only [W]); omega) (fun x hF => ?_)) | (refine ixN_agg hG (fun _ => rfl) (by (try simp only [W]); omega) (fun x hF => ?_))); clear hG; conv => whnf)
    | ((with_reducible have hG := setN_fact hF); clear hF; (first | (refine setN_one hG (by (try simp only [W]); omega) rfl rfl (fun q hF => ?_)) | (refine setN_agg hG (fun _ => rfl) (by (try simp only [W]); omega) rfl rfl (fun q hF => ?_))); clear hG; conv => whnf)
    | (revert hF; (with_reducible refine idx1 ?hn ?_); (case hn => first | exact rfl | exact (List.length_map _) | assumption | omega | simp); intro x hx hF; conv => whnf)
    | ((with_reducible have hG := app_fact hF); clear hF; (first | ((refine app_row hG ?hn ?hs (fun q hF => ?_)); (case hn => first | exact rfl | assumption | omega); (case hs => exact rfl)) | ((refine app_nil (d := Brace.d) hG ?hs (fun q hF => ?_)); (case hs => exact rfl)) | ((refine app_gen (d := Brace.d) hG ?ho ?hn ?hs (fun q hF => ?_)); (case ho => exact rfl); (case hn => exact rfl); (case hs => exact rfl))| ((refine app_nil (d := iN) hG ?hs (fun q hF => ?_)); (case hs => exact rfl)) | ((refine app_gen (d := iN) hG ?ho ?hn ?hs (fun q hF => ?_)); (case ho => exact rfl); (case hn => exact rfl); (case hs => exact rfl))| ((refine app_nil (d := sl_iN) hG ?hs (fun q hF => ?_)); (case hs => exact rfl)) | ((refine app_gen (d := sl_iN) hG ?ho ?hn ?hs (fun q hF => ?_)); (case ho => exact rfl); (case hn => exact rfl); (case hs => exact rfl))); clear hG; conv => whnf)
    | ((refine row_all ?hn ?_); (case hn => first | exact rfl | (simp; done) | (simp; omega)); conv => whnf)
    | ((with_reducible refine le_step ?hn ?_); (case hn => first | exact rfl | assumption | omega); conv => whnf)
    | ((with_reducible have hG := setx_fact hF); clear hF; (refine setx_step hG ?hs (fun q hl hF => ?_)); (case hs => exact rfl); clear hG; conv => whnf)
    | ((refine ⟨?hx, ?_⟩); (case hx => exact ⟨rfl, Nat.le_of_ble_eq_true rfl, rfl⟩); conv => whnf)
    | ((with_reducible refine ex_step ?_); conv => whnf)
    | ((with_reducible have hG := chk_fact hF); clear hF; (refine ⟨?hx, ?_⟩); (case hx => (first | exact of_decide_eq_true hG.1 | exact hG.1)); have hF := hG.2; clear hG; conv => whnf)
    | ((with_reducible refine both_T ?hx ?_); (case hx => first | exact rfl | assumption | exact notT (by assumption)); conv => whnf)
    | ((with_reducible refine both_F ?hx ?_); (case hx => first | exact rfl | assumption | exact notF (by assumption)); conv => whnf)
    | (revert hF; (with_reducible refine ite_step ?_ ?_) <;> (intro hc hF; conv => whnf))
    | ((with_reducible refine vc_condF ?hx ?_); (case hx => exact rfl))
    | (show retD _ _ _ _ _ _; conv => whnf)
    | ((refine inl_step ?ha ?hb ?hc rfl ?_); (case ha => exact rfl); (case hb => omega); (case hc => exact Nat.le_of_ble_eq_true rfl))
    | (show Kinl _ _ _ _ _ _ _; conv => whnf)
    | ((with_reducible refine kinl_step ?ha ?hb ?_); (case ha => exact rfl); (case hb => exact rfl); conv => whnf)
    | ((refine ⟨?hx, trivial⟩); (case hx => (cases hF; exact rfl)))
    | ((refine ⟨?hx, ?_⟩); (case hx => decide); conv => whnf)
    | with_reducible refine k_seq ?_
    | (have hF : (none : Option _) = some _ := hF; cases hF))
end
end Go.Vc
namespace Go.Vc
set_option linter.unusedVariables false
set_option linter.unnecessarySimpa false
set_option linter.unusedSimpArgs false
section
variable {α β σ : Type}
theorem iffD {α : Type} {p q : Prop} {dp : Decidable p} {dq : Decidable q} {a b : α} (h : p ↔ q) : @ite α p dp a b = @ite α q dq a b := by
  by_cases hp : p
  · rw [if_pos hp, if_pos (h.1 hp)]
  · rw [if_neg hp, if_neg fun hq => hp (h.2 hq)]
open Classical in
theorem loop_ex {F : Nat → Int → Option β} {k0 e : Option β} {p : Nat → Prop} (len : Nat)
    (hs : ∀ n i, i < len → F (n + 1) (i : Int) = if p i then e else F n ((i + 1 : Nat) : Int)) (he : ∀ n, F (n + 1) (len : Int) = k0) :
    ∀ n i, i ≤ len → len - i < n → F n (i : Int) = if (∃ j, i ≤ j ∧ j < len ∧ p j) then e else k0 := by
  intro n
  induction n with
  | zero => intro i _ h; omega
  | succ n ih =>
    intro i hi hn
    by_cases h : i = len
    · subst h
      rw [he, if_neg]
      rintro ⟨j, h1, h2, _⟩; omega
    · rw [hs n i (by omega)]
      by_cases hp : p i
      · rw [if_pos hp, if_pos ⟨i, Nat.le_refl _, by omega, hp⟩]
      · rw [if_neg hp, ih (i + 1) (by omega) (by omega)]
        by_cases hx : ∃ j, i + 1 ≤ j ∧ j < len ∧ p j
        · obtain ⟨j, h1, h2, h3⟩ := hx
          rw [if_pos ⟨j, h1, h2, h3⟩, if_pos ⟨j, by omega, h2, h3⟩]
        · rw [if_neg hx, if_neg]
          rintro ⟨j, h1, h2, h3⟩
          by_cases hj : j = i
          · subst hj; exact hp h3
          · exact hx ⟨j, by omega, h2, h3⟩
open Classical in
theorem loop_ex0 {F : Nat → Int → Option β} {k0 e : Option β} {p : Nat → Prop} (len : Nat)
    (hs : ∀ n i, i < len → F (n + 1) (i : Int) = if p i then e else F n ((i + 1 : Nat) : Int)) (he : ∀ n, F (n + 1) (len : Int) = k0) {n : Nat} (hn : len < n) :
    F n 0 = if (∃ j, j < len ∧ p j) then e else k0 := by
  have := loop_ex len hs he n 0 (by omega) (by omega)
  rw [show ((0 : Nat) : Int) = 0 from rfl] at this
  rw [this]
  by_cases h : ∃ j, j < len ∧ p j
  · obtain ⟨j, h1, h2⟩ := h
    rw [if_pos ⟨j, by omega, h1, h2⟩, if_pos ⟨j, h1, h2⟩]
  · rw [if_neg h, if_neg]
    rintro ⟨j, _, h1, h2⟩; exact h ⟨j, h1, h2⟩
theorem loop_inv {F : Nat → σ → Int → Option β} {k : σ → Option β} (g : σ → Nat → σ) (Inv : Nat → σ → Prop) (len : Nat)
    (hs : ∀ n s i, i < len → Inv i s → F (n + 1) s (i : Int) = F n (g s i) ((i + 1 : Nat) : Int)) (hi : ∀ s i, i < len → Inv i s → Inv (i + 1) (g s i)) (he : ∀ n s, F (n + 1) s (len : Int) = k s) :
    ∀ n i s, i ≤ len → len - i < n → Inv i s → F n s (i : Int) = k ((List.range' i (len - i)).foldl g s) ∧ Inv len ((List.range' i (len - i)).foldl g s) := by
  intro n
  induction n with
  | zero => intro i s _ h; omega
  | succ n ih =>
    intro i s hl hn h0
    by_cases h : i = len
    · subst h
      rw [he, Nat.sub_self]; exact ⟨rfl, h0⟩
    · rw [hs n s i (by omega) h0]
      obtain ⟨h1, h2⟩ := ih (i + 1) (g s i) (by omega) (by omega) (hi s i (by omega) h0)
      rw [show len - i = (len - (i + 1)) + 1 by omega, List.range'_succ]
      exact ⟨h1, h2⟩
theorem loop_inv0 {F : Nat → σ → Int → Option β} {k : σ → Option β} (g : σ → Nat → σ) (Inv : Nat → σ → Prop) (len : Nat)
    (hs : ∀ n s i, i < len → Inv i s → F (n + 1) s (i : Int) = F n (g s i) ((i + 1 : Nat) : Int)) (hi : ∀ s i, i < len → Inv i s → Inv (i + 1) (g s i)) (he : ∀ n s, F (n + 1) s (len : Int) = k s)
    {n : Nat} {s : σ} (hn : len < n) (h0 : Inv 0 s) : F n s 0 = k ((List.range len).foldl g s) ∧ Inv len ((List.range len).foldl g s) := by
  have := loop_inv g Inv len hs hi he n 0 s (by omega) (by omega) h0
  rw [List.range_eq_range']
  simpa using this
end
end Go.Vc
namespace Go.Vc
open Go.Proofs
set_option linter.unusedVariables false
set_option linter.unnecessarySimpa false
set_option linter.unusedSimpArgs false
end Go.Vc
namespace Go.Vc
open Go.Proofs
set_option linter.unusedVariables false
set_option linter.unnecessarySimpa false
set_option linter.unusedSimpArgs false
end Go.Vc
namespace Go.Vc
set_option linter.unusedVariables false
set_option linter.unnecessarySimpa false
set_option linter.unusedSimpArgs false
set_option linter.unusedSimpArgs false
open Classical in
def Small (t : List (List Int)) : Prop := t.length ≤ 20 ∧ ∀ r, r ∈ t → r.length ≤ 20
def row (t : List (List Int)) (i : Nat) : List Int := t.getD i []
def en (t : List (List Int)) (i j : Nat) : Int := (row t i).getD j 0
theorem row_get {t : List (List Int)} {i : Nat} (h : i < t.length) : t[i]? = some (row t i) := by
  simp [row, h]
theorem row_mem {t : List (List Int)} {i : Nat} (h : i < t.length) : row t i ∈ t := by
  simp [row, h]
theorem ix_row {t : List (List Int)} {i : Nat} (h : i < t.length) : ix t (i : Int) = some (row t i) := by rw [ix_nat, row_get h]
theorem ix_en {t : List (List Int)} {i j : Nat} (h : j < (row t i).length) : ix (row t i) (j : Int) = some (en t i j) := by
  rw [ix_nat]; simp [en, h]
theorem take_flat {t : List (List Int)} {i : Nat} (h : i < t.length) : (t.take (i + 1)).flatten = (t.take i).flatten ++ row t i := by
  rw [List.take_add_one, row_get h]; simp
theorem row_le {t : List (List Int)} {m i : Nat} (hr : ∀ r, r ∈ t → r.length ≤ m) (h : i < t.length) : (row t i).length ≤ m := hr _ (row_mem h)
theorem f35_eq {N : Nat} {t : List (List Int)} (hs : Small t) (hN : 30 ≤ N) : f35 N t = some t.flatten := by
  obtain ⟨hs, hr⟩ := hs
  unfold f35
  simp only [joinK]
  obtain ⟨h1, h2⟩ := loop_inv0 (F := f35_3 t (f35_c9 t N)) (k := f35_c9 t N) (fun (s : Int) i => s + ((row t i).length : Int)) (fun i s => 0 ≤ s ∧ s ≤ 20 * i) t.length (by
      intro n s i hi h
      conv => lhs; unfold f35_3 f35_3b
      have := row_le hr hi
      have hw : W (s + ((row t i).length : Int)) = s + ((row t i).length : Int) := W_of (by omega) (by omega)
      simp only [show (i : Int) < (t.length : Int) by omega, decide_true, cond_true, ix_row hi, Option.bind_some, hw, show ¬ s + ((row t i).length : Int) < 0 by omega, decide_false, cond_false]
      rw [W_nat (by omega)]) (by
      intro s i hi h
      have := row_le hr hi
      omega) (by intro n s; (conv => lhs; unfold f35_3 f35_3b); simp) (n := N) (s := 0) (by omega) ⟨by omega, by omega⟩
  rw [h1]
  generalize (List.range t.length).foldl (fun (s : Int) i => s + ((row t i).length : Int)) 0 = z at h2
  have hk : f35_c10 t N [] = some t.flatten := by
    unfold f35_c10
    simp only [joinK]
    obtain ⟨h3, h4⟩ := loop_inv0 (F := f35_11 t f35_c15) (k := f35_c15) (fun (s : List Int) i => s ++ row t i) (fun i s => s = (t.take i).flatten ∧ s.length ≤ 20 * i) t.length (by
      intro n s i hi h
      conv => lhs; unfold f35_11 f35_11b
      have := row_le hr hi
      simp only [show (i : Int) < (t.length : Int) by omega, decide_true, cond_true, ix_row hi, Option.bind_some]
      rw [app_ok (by omega) (by omega)]
      simp only [Option.bind_some]
      rw [W_nat (by omega)]) (by
      intro s i hi h
      have := row_le hr hi
      exact ⟨by rw [h.1, take_flat hi], by simp; omega⟩) (by intro n s; (conv => lhs; unfold f35_11 f35_11b); simp) (n := N) (s := []) (by omega) ⟨by simp, by simp⟩
    rw [h3, h4.1, List.take_length]; rfl
  unfold f35_c9
  simp only [joinK]
  rw [show decide (z < 0) = false by simp; omega]
  simp only [cond_false]
  rw [show W (z - W (0 - 0)) = z by
    rw [show W ((0 : Int) - 0) = 0 from rfl, Int.sub_zero]; exact W_of (by omega) (by omega)]
  by_cases h0 : 0 < z
  · simp only [h0, decide_true, cond_true]
    unfold mkA
    rw [if_pos ⟨by omega, by omega⟩]
    simp only [Option.bind_some]
    rw [show subR (List.replicate z.toNat (0 : Int)) 0 0 = some [] by
      unfold subR sub
      rw [if_pos ⟨by omega, by omega, by omega⟩]; simp]
    exact hk
  · simp only [h0, decide_false, cond_false]
    exact hk
open Classical in
def Seen (b : List Bool) (f : Nat → Int) (i : Nat) : Prop := b.length = 10 ∧ ∀ x : Nat, x < 10 → (b[x]? = some true ↔ ∃ j, j < i ∧ f j = (x : Int)) 
theorem Seen.zero {f : Nat → Int} : Seen (List.replicate 10 false) f 0 :=
  ⟨by simp, fun x hx => by rw [List.getElem?_replicate, if_pos hx]; exact ⟨fun h => (by cases h), fun ⟨j, h, _⟩ => by omega⟩⟩
theorem Seen.set {b : List Bool} {f : Nat → Int} {i : Nat} (h : Seen b f i) {x : Int} (h0 : 0 ≤ x) (h1 : x < 10) (hx : f i = x) : ∃ b', setN b x.toNat true = some b' ∧ Seen b' f (i + 1) := by
  obtain ⟨hl, hb⟩ := h
  refine ⟨b.set x.toNat true, by simp [setN, show x.toNat < b.length by omega], by simp [hl], fun y hy => ?_⟩
  rw [List.getElem?_set]
  by_cases e : x.toNat = y
  · rw [if_pos e, if_pos (by omega)]
    exact ⟨fun _ => ⟨i, by omega, by omega⟩, fun _ => rfl⟩
  · rw [if_neg e, hb y hy]
    constructor
    · rintro ⟨j, h2, h3⟩; exact ⟨j, by omega, h3⟩
    · rintro ⟨j, h2, h3⟩
      by_cases hj : j = i
      · subst hj; omega
      · exact ⟨j, by omega, h3⟩
structure Sq (t : List (List Int)) : Prop where
  hi : t.length ≤ 10
  len : ∀ i, i < t.length → (row t i).length = t.length
  lo : ∀ i j, i < t.length → j < t.length → 0 ≤ en t i j ∧ en t i j < t.length
theorem chkI_ok {n : Nat} {x : Int} (h : 0 ≤ x) (h' : x < n) : chkI n x = some () := by simp [chkI, h, h']
theorem Sq.ix {t : List (List Int)} (h : Sq t) {i j : Nat} (hi : i < t.length) (hj : j < t.length) : Vc.ix (row t i) (j : Int) = some (en t i j) := ix_en (by rw [h.len i hi]; exact hj)
theorem Sq.step {t : List (List Int)} (h : Sq t) {s : Nat} {d : Int} (hs : s < t.length) (hd : 0 ≤ d ∧ d < t.length) : (en t s d.toNat).toNat < t.length ∧ Vc.ix (row t s) d = some (((en t s d.toNat).toNat : Nat) : Int) := by
  have := h.lo s d.toNat hs (by omega)
  refine ⟨by omega, ?_⟩
  have h2 := h.ix hs (show d.toNat < t.length by omega)
  rw [show ((d.toNat : Nat) : Int) = d by omega] at h2
  rw [h2]; congr 1; omega
theorem ix_getD {l : List Int} {i : Nat} (h : i < l.length) : ix l (i : Int) = some (l.getD i 0) := by simp [ix_nat, h]
end Go.Vc
namespace Go.Vc
open Go.Proofs
set_option linter.unusedVariables false
set_option linter.unnecessarySimpa false
set_option linter.unusedSimpArgs false
end Go.Vc
namespace Go.Vc
open Go.Proofs
set_option linter.unusedVariables false
set_option linter.unnecessarySimpa false
set_option linter.unusedSimpArgs false
end Go.Vc
namespace Go.Vc
set_option linter.unusedVariables false
set_option linter.unnecessarySimpa false
set_option linter.unusedSimpArgs false
set_option linter.unusedSimpArgs false
theorem setx_nat {l : List Int} {i : Nat} {x : Int} (h : i < l.length) : setx l (i : Int) x = some (l.set i x) := by
  unfold setx; rw [if_pos ⟨by omega, by omega⟩]; simp
theorem getD_set {l : List Int} {i j : Nat} {x : Int} (h : i < l.length) : (l.set i x).getD j 0 = if i = j then x else l.getD j 0 := by
  simp only [List.getD_eq_getElem?_getD, List.getElem?_set]
  by_cases e : i = j
  · subst e; simp [h]
  · simp [e]
theorem tmod_nat (a b : Nat) : Int.tmod (a : Int) (b : Int) = ((a % b : Nat) : Int) := rfl
theorem chk_pos {n : Nat} (h : 0 < n) : chk (decide ((n : Int) ≠ 0)) = some () := by
  rw [show decide ((n : Int) ≠ 0) = true by simp; omega]; rfl
def rng (n : Nat) : List Int := (List.range n).map fun (i : Nat) => (i : Int)
end Go.Vc
namespace Go.Vc
open Go.Proofs
set_option linter.unusedVariables false
set_option linter.unnecessarySimpa false
set_option linter.unusedSimpArgs false
end Go.Vc
namespace Go.Vc
open Go.Proofs
set_option linter.unusedVariables false
set_option linter.unnecessarySimpa false
set_option linter.unusedSimpArgs false
end Go.Vc
namespace Go.Vc
open Go.Proofs
set_option linter.unusedVariables false
set_option linter.unnecessarySimpa false
set_option linter.unusedSimpArgs false
end Go.Vc
namespace Go.Vc
open Go.Proofs
set_option linter.unusedVariables false
set_option linter.unnecessarySimpa false
set_option linter.unusedSimpArgs false
set_option linter.unusedSimpArgs false
theorem chk_nn {c : Nat} : chk (decide ((0 : Int) ≤ (c : Int))) = some () := by simp [chk]
theorem or8 {m n : Nat} (hm : m < 256) (hn : n < 256) : bitsI .or .u8 (m : Int) (n : Int) = ((m ||| n : Nat) : Int) := by
  have e : (BitVec.ofInt 8 (m : Int) ||| BitVec.ofInt 8 (n : Int)).toNat = m ||| n := by
    rw [BitVec.toNat_or, BitVec.ofInt_natCast, BitVec.ofInt_natCast, BitVec.toNat_ofNat, BitVec.toNat_ofNat, Nat.mod_eq_of_lt (show m < 2 ^ 8 by omega), Nat.mod_eq_of_lt (show n < 2 ^ 8 by omega)]
  have e2 : bitsI .or .u8 (m : Int) (n : Int) = IntKind.u8.wrap ((m ||| n : Nat) : Int) := congrArg (fun k : Nat => IntKind.u8.wrap (k : Int)) e
  rw [e2]
  have := Nat.or_lt_two_pow (n := 8) hm hn
  exact wrap_id (by simp [IntKind.min, IntKind.max, IntKind.signed, IntKind.bits]; omega)
theorem and8 {m n : Nat} (hm : m < 256) (hn : n < 256) : bitsI .and .u8 (m : Int) (n : Int) = ((m &&& n : Nat) : Int) := by
  have e : (BitVec.ofInt 8 (m : Int) &&& BitVec.ofInt 8 (n : Int)).toNat = m &&& n := by
    rw [BitVec.toNat_and, BitVec.ofInt_natCast, BitVec.ofInt_natCast, BitVec.toNat_ofNat, BitVec.toNat_ofNat, Nat.mod_eq_of_lt (show m < 2 ^ 8 by omega), Nat.mod_eq_of_lt (show n < 2 ^ 8 by omega)]
  have e2 : bitsI .and .u8 (m : Int) (n : Int) = IntKind.u8.wrap ((m &&& n : Nat) : Int) := congrArg (fun k : Nat => IntKind.u8.wrap (k : Int)) e
  rw [e2]
  have := Nat.and_lt_two_pow m (show n < 2 ^ 8 by omega)
  exact wrap_id (by simp [IntKind.min, IntKind.max, IntKind.signed, IntKind.bits]; omega)
theorem sh8 : ∀ c : Nat, c < 8 → Wk .u8 ((1 : Int) * 2 ^ (min (Int.toNat (c : Int)) 8)) = ((2 ^ c : Nat) : Int) := by decide
theorem pow8 {c : Nat} (h : c < 8) : 2 ^ c < 256 := Nat.pow_lt_pow_right (by omega) (show c < 8 from h)
theorem f49_eq {N m c : Nat} (hm : m < 256) (hc : c < 8) : f49 N (m : Int) (c : Int) = some (m.testBit c) := by
  unfold f49
  rw [Int.toNat_natCast, show min c 8 = c by omega]
  have e : Int.fdiv (m : Int) (2 ^ c) = ((m / 2 ^ c : Nat) : Int) := by
    have : (2 : Int) ^ c = ((2 ^ c : Nat) : Int) := by simp
    rw [this, Int.fdiv_eq_ediv_of_nonneg _ (Int.natCast_nonneg _)]; rfl
  have e1 : bitsI .and .u8 ((m / 2 ^ c : Nat) : Int) (1 : Int) = ((m / 2 ^ c % 2 : Nat) : Int) := by
    have := and8 (m := m / 2 ^ c) (n := 1) (by have := Nat.div_le_self m (2 ^ c); omega) (by omega)
    rw [show ((1 : Nat) : Int) = 1 from rfl] at this
    rw [this, Nat.and_one_is_mod]
  rw [e, e1, Nat.testBit_eq_decide_div_mod_eq]
  simp only [chk_nn, Option.bind_some, Option.some.injEq, decide_eq_decide]
  omega
def lsN (m : Nat) : List Nat := (List.range 7).filter fun c => m.testBit c
def lsI (m : Nat) : List Int := (lsN m).map fun (c : Nat) => (c : Int)
theorem mem_lsN {m c : Nat} : c ∈ lsN m ↔ c < 7 ∧ m.testBit c = true := by simp [lsN]
theorem lsN_len {m : Nat} : (lsN m).length ≤ 7 := by
  have := List.length_filter_le (fun c => m.testBit c) (List.range 7)
  simpa [lsN] using this
theorem lsN_full {m n : Nat} (hn : n ≤ 7) (h : ∀ c, m.testBit c = true ↔ c < n) : lsN m = List.range n := by
  have e : lsN m = (List.range 7).filter fun c => decide (c < n) := by
    unfold lsN
    refine List.filter_congr fun c _ => ?_
    have := h c
    by_cases hc : c < n
    · simp [hc, this.2 hc]
    · cases hb : m.testBit c
      · simp [hc]
      · exact absurd (this.1 hb) hc
  rw [e]
  rcases (show n = 0 ∨ n = 1 ∨ n = 2 ∨ n = 3 ∨ n = 4 ∨ n = 5 ∨ n = 6 ∨ n = 7 by omega) with rfl | rfl | rfl | rfl | rfl | rfl | rfl | rfl <;> rfl
def lsK (m k : Nat) : List Int := ((List.range k).filter fun c => m.testBit c).map fun (c : Nat) => (c : Int)
theorem lsK_succ {m k : Nat} : lsK m (k + 1) = if m.testBit k = true then lsK m k ++ [(k : Int)] else lsK m k := by
  unfold lsK
  rw [List.range_succ, List.filter_append]
  cases h : m.testBit k <;> simp [h]
theorem lsK_len {m k : Nat} : (lsK m k).length ≤ k := by
  have := List.length_filter_le (fun c => m.testBit c) (List.range k)
  simpa [lsK] using this
theorem f26_eq {N m : Nat} (hm : m < 256) (hN : 10 ≤ N) : f26 N (m : Int) = some (lsI m) := by
  unfold f26
  simp only [joinK]
  obtain ⟨e1, e2⟩ := loop_inv0 (F := f26_4 (m : Int) N f26_c9) (k := f26_c9) (fun s i => if m.testBit i = true then s ++ [(i : Int)] else s) (fun i s => s = lsK m i) 7 (by
    intro n s i hi h
    subst h
    conv => lhs; unfold f26_4 f26_4b
    have := lsK_len (m := m) (k := i)
    simp only [show (i : Int) < 7 by omega, decide_true, cond_true, f49_eq hm (show i < 8 by omega), Option.bind_some]
    cases hb : m.testBit i
    · simp only [cond_false]
      rw [W_nat (by omega)]; simp
    · simp only [cond_true]
      rw [app_ok (by simp; omega) (by simp; omega)]
      simp only [Option.bind_some]
      rw [W_nat (by omega)]; simp) (by intro s i hi h; rw [h, lsK_succ]) (by intro n s; (conv => lhs; unfold f26_4 f26_4b); simp) (n := N) (s := []) (by omega) rfl
  rw [e1, e2]; rfl
theorem ix_lsI {m i : Nat} (h : i < (lsN m).length) : ix (lsI m) (i : Int) = some (((lsN m).getD i 0 : Nat) : Int) := by
  rw [ix_nat]; simp [lsI, h]
structure Pal (p : Palette) : Prop where
  c2 : 2 ≤ p.Colours
  c7 : p.Colours ≤ 7
  i1 : 1 ≤ p.Inks.length
  i6 : p.Inks.length ≤ 6
  len : ∀ d, d < p.Inks.length → ((row p.Inks d).length : Int) = p.Colours
  rng : ∀ d c : Nat, d < p.Inks.length → (c : Int) < p.Colours → 0 ≤ en p.Inks d c ∧ en p.Inks d c < p.Colours
def ik (p : Palette) (d c : Nat) : Nat := (en p.Inks d c).toNat
theorem Pal.ik {p : Palette} (h : Pal p) {d c : Nat} (hd : d < p.Inks.length) (hc : (c : Int) < p.Colours) : ((Vc.ik p d c : Nat) : Int) = en p.Inks d c ∧ ((Vc.ik p d c : Nat) : Int) < p.Colours := by
  have := h.rng d c hd hc
  unfold Vc.ik
  omega
theorem f27_eq {N : Nat} {a b c : Int} : f27 N a b c = some (decide (a ≤ b ∧ b ≤ c)) := by
  unfold f27
  by_cases h : a ≤ b <;> simp [h]
theorem f24_ok {p : Palette} (h : Pal p) {N : Nat} (hN : 20 ≤ N) : f24 N p = some 0 := by
  have h2 := h.c2; have h7 := h.c7; have i1 := h.i1; have i6 := h.i6
  unfold f24
  rw [f27_eq, show decide (2 ≤ p.Colours ∧ p.Colours ≤ 7) = true by simp [h2, h7]]
  simp only [Option.bind_some, Bool.not_true, cond_false, show ¬ (p.Inks.length : Int) = 0 by omega, decide_false, show ¬ (6 : Int) < (p.Inks.length : Int) by omega, joinK]
  rw [loop_ex0 (F := f24_8 p N f24_c15) (e := some 0) (k0 := f24_c15) (p := fun _ => False) p.Inks.length]
  · simp; rfl
  · intro n d hd
    rw [if_neg (by simp)]
    conv => lhs; unfold f24_8 f24_8b
    simp only [show (d : Int) < (p.Inks.length : Int) by omega, decide_true, cond_true, ix_row hd, Option.bind_some, h.len d hd, not_true_eq_false, decide_false, cond_false, joinK]
    have hlen := h.len d hd
    rw [loop_ex0 (F := f24_i1202_i1203000102_2 p N (d : Int) (f24_8 p N f24_c15 n) (row p.Inks d) (f24_i1202_i1203000102_c7 p (d : Int) (f24_8 p N f24_c15 n))) (e := some 0) (k0 := f24_i1202_i1203000102_c7 p (d : Int) (f24_8 p N f24_c15 n)) (p := fun _ => False) (row p.Inks d).length]
    · simp only [and_false, exists_false, if_false]
      unfold f24_i1202_i1203000102_c7
      rw [W_nat (by omega)]
    · intro m c hc
      rw [if_neg (by simp)]
      conv => lhs; unfold f24_i1202_i1203000102_2 f24_i1202_i1203000102_2b
      have := h.rng d c hd (by omega)
      simp only [show (c : Int) < ((row p.Inks d).length : Int) by omega, decide_true, cond_true, ix_en hc, Option.bind_some, f27_eq]
      rw [show W (p.Colours - 1) = p.Colours - 1 from W_of (by omega) (by omega), show decide (0 ≤ en p.Inks d c ∧ en p.Inks d c ≤ p.Colours - 1) = true by simp; omega]
      simp only [Bool.not_true, cond_false]
      rw [W_nat (by omega)]
    · intro m; (conv => lhs; unfold f24_i1202_i1203000102_2 f24_i1202_i1203000102_2b); simp
    · omega
  · intro n; (conv => lhs; unfold f24_8 f24_8b); simp
  · omega
theorem f39_eq {N : Nat} {l : List Int} (h1 : 1 ≤ l.length) (h2 : l.length ≤ 1000) (hN : 2000 ≤ N) : ∃ M, f39 N l = some M ∧ ∀ j, j < l.length → l.getD j 0 ≤ M := by
  unfold f39
  simp only [show ¬ (l.length : Int) < 1 by omega, decide_false, cond_false, joinK]
  have h0 : ix l (0 : Int) = some (l.getD 0 0) := ix_getD (i := 0) (by omega)
  rw [h0]
  simp only [Option.bind_some]
  have := loopI (F := fun n s i => f39_5 l f39_c8 n s i) l.length (fun i m => ∀ j, j < i → l.getD j 0 ≤ m) (fun M => ∀ j, j < l.length → l.getD j 0 ≤ M) (by
    intro n s i hI hi
    refine .inr ⟨max s (l.getD i 0), fun j hj => ?_, ?_⟩
    · by_cases e : j = i
      · subst e; omega
      · have := hI j (by omega); omega
    · conv => lhs; unfold f39_5 f39_5b
      simp only [show (i : Int) < (l.length : Int) by omega, decide_true, cond_true, ix_getD hi, Option.bind_some]
      rw [W_nat (by omega)]) (by
    intro n s hI
    refine ⟨s, ?_, hI⟩
    (conv => lhs; unfold f39_5 f39_5b); simp [f39_c8]) N (l.getD 0 0) 1 (fun j hj => by rw [show j = 0 by omega]; exact Int.le_refl _) (by omega) (by omega)
  exact this
theorem f40_eq {N : Nat} {l : List Int} (h1 : 1 ≤ l.length) (h2 : l.length ≤ 1000) (hN : 2000 ≤ N) : ∃ M, f40 N l = some M ∧ ∀ j, j < l.length → M ≤ l.getD j 0 := by
  unfold f40
  simp only [show ¬ (l.length : Int) < 1 by omega, decide_false, cond_false, joinK]
  have h0 : ix l (0 : Int) = some (l.getD 0 0) := ix_getD (i := 0) (by omega)
  rw [h0]
  simp only [Option.bind_some]
  have := loopI (F := fun n s i => f40_5 l f40_c8 n s i) l.length (fun i m => ∀ j, j < i → m ≤ l.getD j 0) (fun M => ∀ j, j < l.length → M ≤ l.getD j 0) (by
    intro n s i hI hi
    refine .inr ⟨min s (l.getD i 0), fun j hj => ?_, ?_⟩
    · by_cases e : j = i
      · subst e; omega
      · have := hI j (by omega); omega
    · conv => lhs; unfold f40_5 f40_5b
      simp only [show (i : Int) < (l.length : Int) by omega, decide_true, cond_true, ix_getD hi, Option.bind_some]
      rw [W_nat (by omega)]) (by
    intro n s hI
    refine ⟨s, ?_, hI⟩
    (conv => lhs; unfold f40_5 f40_5b); simp [f40_c8]) N (l.getD 0 0) 1 (fun j hj => by rw [show j = 0 by omega]; exact Int.le_refl _) (by omega) (by omega)
  exact this
def InkIs (k : I56) (l : List Int) : Prop := k = .c82 l ∨ ∃ x, k = .c81 x ∧ ∀ c, c < l.length → l.getD c 0 = x
theorem f19_eq {p : Palette} (h : Pal p) {N d : Nat} (hd : d < p.Inks.length) (hN : 2000 ≤ N) : ∃ k, f19 N p (d : Int) = some k ∧ InkIs k (row p.Inks d) := by
  have hlen := h.len d hd
  have h2 := h.c2; have h7 := h.c7
  obtain ⟨M, hM, hM2⟩ := f39_eq (N := N) (l := row p.Inks d) (by omega) (by omega) hN
  obtain ⟨m, hm, hm2⟩ := f40_eq (N := N) (l := row p.Inks d) (by omega) (by omega) hN
  unfold f19
  rw [ix_row hd]
  simp only [Option.bind_some]
  rw [hM]; simp only [Option.bind_some]
  rw [hm]; simp only [Option.bind_some]
  by_cases e : M = m
  · have h0 : ix (row p.Inks d) (0 : Int) = some ((row p.Inks d).getD 0 0) := ix_getD (i := 0) (by omega)
    simp only [e, decide_true, cond_true]
    rw [h0]
    refine ⟨_, rfl, .inr ⟨_, rfl, fun c hc => ?_⟩⟩
    have a1 := hM2 c hc
    have a2 := hm2 c hc
    have a3 := hM2 0 (by omega)
    have a4 := hm2 0 (by omega)
    omega
  · simp only [e, decide_false, cond_false]
    exact ⟨_, rfl, .inl rfl⟩
structure Set8 (p : Palette) (m : Nat) : Prop where
  lo : m.testBit 0 = true
  in' : ∀ c, m.testBit c = true → (c : Int) < p.Colours
theorem Set8.lt {p : Palette} (hp : Pal p) {m : Nat} (h : Set8 p m) : m < 128 := by
  have h7 := hp.c7
  refine Nat.lt_pow_two_of_testBit (n := 7) m fun i hi => ?_
  cases hb : m.testBit i
  · rfl
  · have := h.in' i hb; omega
theorem Set8.one {p : Palette} (hp : Pal p) : Set8 p 1 := by
  have h2 := hp.c2
  refine ⟨rfl, fun c hc => ?_⟩
  rw [show (1 : Nat) = 2 ^ 0 from rfl, Nat.testBit_two_pow] at hc
  simp at hc
  subst hc; simp; omega
def PrintOf (p : Palette) (d m m' : Nat) : Prop := ∀ j, m'.testBit j = true ↔ m.testBit j = true ∨ ∃ c, m.testBit c = true ∧ ik p d c = j
theorem PrintOf.set {p : Palette} (hp : Pal p) {d m m' : Nat} (hd : d < p.Inks.length) (hm : Set8 p m) (h : PrintOf p d m m') : Set8 p m' := by
  refine ⟨(h 0).2 (.inl hm.lo), fun j hj => ?_⟩
  rcases (h j).1 hj with h1 | ⟨c, h1, h2⟩
  · exact hm.in' j h1
  · have := (hp.ik hd (hm.in' c h1)).2
    omega
theorem f25_eq {p : Palette} (hp : Pal p) {N d m : Nat} {k : I56} (hd : d < p.Inks.length) (hk : InkIs k (row p.Inks d)) (hm : Set8 p m) (hN : 2000 ≤ N) : ∃ m' : Nat, f25 N (m : Int) k = some (m' : Int) ∧ PrintOf p d m m' := by
  have hlt := hm.lt hp
  have hlen := hp.len d hd
  have h2 := hp.c2; have h7 := hp.c7
  rcases hk with rfl | ⟨x, rfl, hx⟩
  · unfold f25
    simp only [joinK]
    rw [f26_eq (by omega) (by omega)]
    simp only [Option.bind_some]
    have hin : ∀ i, i < (lsN m).length → m.testBit ((lsN m).getD i 0) = true ∧ (((lsN m).getD i 0 : Nat) : Int) < p.Colours := by
      intro i hi
      have : (lsN m).getD i 0 ∈ lsN m := by simp [hi]
      have := (mem_lsN.1 this).2
      exact ⟨this, hm.in' _ this⟩
    have hl7 := lsN_len (m := m)
    have := loopI (F := fun n (s : Nat) i => f25_5 N (row p.Inks d) f25_c9 (lsI m) n (s : Int) i) (lsN m).length (fun i o => o < 128 ∧ ∀ j, o.testBit j = true ↔ m.testBit j = true ∨ ∃ q, q < i ∧ ik p d ((lsN m).getD q 0) = j)
      (fun r => ∃ m' : Nat, r = (m' : Int) ∧ PrintOf p d m m') (by
      intro n s i hI hi
      obtain ⟨hs, hI⟩ := hI
      obtain ⟨b1, b2⟩ := hin i hi
      obtain ⟨e1, e2⟩ := hp.ik hd b2
      have hj : ik p d ((lsN m).getD i 0) < 7 := by omega
      refine .inr ⟨s ||| 2 ^ ik p d ((lsN m).getD i 0), ⟨Nat.or_lt_two_pow (n := 7) hs (Nat.pow_lt_pow_right (by omega) hj), fun j => ?_⟩, ?_⟩
      · rw [Nat.testBit_or, Nat.testBit_two_pow, Bool.or_eq_true, hI j]
        constructor
        · rintro ((h | ⟨q, h3, h4⟩) | h)
          · exact .inl h
          · exact .inr ⟨q, by omega, h4⟩
          · exact .inr ⟨i, by omega, by simpa using h⟩
        · rintro (h | ⟨q, h3, h4⟩)
          · exact .inl (.inl h)
          · by_cases hq : q = i
            · subst hq; exact .inr (by simpa using h4)
            · exact .inl (.inr ⟨q, by omega, h4⟩)
      · conv => lhs; unfold f25_5 f25_5b
        have hl : ((lsI m).length : Int) = ((lsN m).length : Int) := by simp [lsI]
        rw [hl]
        simp only [show (i : Int) < ((lsN m).length : Int) by omega, decide_true, cond_true, ix_lsI hi, Option.bind_some]
        unfold f80
        rw [ix_en (t := p.Inks) (i := d) (by omega), ← e1]
        simp only [Option.bind_some, chk_nn]
        rw [sh8 _ (by omega), or8 (by omega) (pow8 (by omega)), W_nat (by omega)]) (by
      intro n s hI
      refine ⟨(s : Int), ?_, s, rfl, fun j => ?_⟩
      · conv => lhs; unfold f25_5 f25_5b
        have hl : ((lsI m).length : Int) = ((lsN m).length : Int) := by simp [lsI]
        rw [hl]; simp [f25_c9]
      · rw [hI.2 j]
        constructor
        · rintro (h | ⟨q, h3, h4⟩)
          · exact .inl h
          · exact .inr ⟨_, (hin q h3).1, h4⟩
        · rintro (h | ⟨c, h3, h4⟩)
          · exact .inl h
          · refine .inr ?_
            obtain ⟨q, hq⟩ := List.mem_iff_getElem?.1 (mem_lsN.2 ⟨by have := hm.in' c h3; omega, h3⟩)
            exact ⟨q, (List.getElem?_eq_some_iff.1 hq).1, by rw [List.getD_eq_getElem?_getD, hq]; exact h4⟩) N m 0 ⟨hlt, fun j => by simp⟩ (by omega) (by omega)
    obtain ⟨r, h3, m', rfl, h4⟩ := this
    exact ⟨m', h3, h4⟩
  · unfold f25 f48
    have hx0 : x = ((ik p d 0 : Nat) : Int) := by
      rw [(hp.ik hd (c := 0) (by simp; omega)).1]; exact (hx 0 (by omega)).symm
    have hi := (hp.ik hd (c := 0) (by simp; omega)).2
    subst hx0
    simp only [Option.bind_some, chk_nn]
    rw [sh8 _ (by omega), or8 (by omega) (pow8 (by omega))]
    refine ⟨_, rfl, fun j => ?_⟩
    rw [Nat.testBit_or, Nat.testBit_two_pow, Bool.or_eq_true]
    constructor
    · rintro (h | h)
      · exact .inl h
      · exact .inr ⟨0, hm.lo, by simpa using h⟩
    · rintro (h | ⟨c, h3, h4⟩)
      · exact .inl h
      · refine .inr ?_
        have hc := hm.in' c h3
        have e1 := hx c (by omega)
        have e2 := (hp.ik hd hc).1
        unfold en at e2
        simp only [decide_eq_true_eq]; omega
end Go.Vc
namespace Go.Vc
open Go.Proofs
set_option linter.unusedVariables false
set_option linter.unnecessarySimpa false
set_option linter.unusedSimpArgs false
set_option linter.unusedSimpArgs false
theorem f19_25 {p : Palette} (hp : Pal p) {N d m : Nat} (hd : d < p.Inks.length) (hm : Set8 p m) (hN : 2000 ≤ N) :
    ∃ k, f19 N p (d : Int) = some k ∧ InkIs k (row p.Inks d) ∧ ∃ m' : Nat, f25 N (m : Int) k = some (m' : Int) ∧ PrintOf p d m m' := by
  obtain ⟨k, hk, hk2⟩ := f19_eq hp (N := N) hd hN
  obtain ⟨m', h1, h2⟩ := f25_eq hp (N := N) hd hk2 hm hN
  exact ⟨k, hk, hk2, m', h1, h2⟩
theorem getD_app_l {α : Type} {l r : List α} {i : Nat} {z : α} (h : i < l.length) : (l ++ r).getD i z = l.getD i z := by
  rw [List.getD_eq_getElem?_getD, List.getD_eq_getElem?_getD, List.getElem?_append_left h]
theorem getD_app_r {α : Type} {l r : List α} {i : Nat} {z : α} (h : l.length ≤ i) : (l ++ r).getD i z = r.getD (i - l.length) z := by
  rw [List.getD_eq_getElem?_getD, List.getD_eq_getElem?_getD, List.getElem?_append_right h]
def ClosedP (p : Palette) (S : Nat → Prop) : Prop := ∀ c d, S c → d < p.Inks.length → S (ik p d c)
theorem f10_in {p : Palette} (hp : Pal p) {N : Nat} {s5 : Int} {r5 : Int → Int → Option (List Int × Int)} (hN : 2000 ≤ N) : ∀ n (o i : Nat), i ≤ p.Inks.length → p.Inks.length - i < n → Set8 p o →
    ∃ o' : Nat, f10_8 p N s5 r5 n (o : Int) (i : Int) = r5 (o' : Int) s5 ∧ Set8 p o' ∧ (∀ j, o.testBit j = true → o'.testBit j = true) ∧ (∀ S, ClosedP p S → (∀ j, o.testBit j = true → S j) → ∀ j, o'.testBit j = true → S j) ∧
      ∀ d c, i ≤ d → d < p.Inks.length → o.testBit c = true → o'.testBit (ik p d c) = true := by
  intro n
  induction n with
  | zero => intro o i _ h; omega
  | succ n ih =>
    intro o i hi hn ho
    have i6 := hp.i6
    conv => enter [1, o', 1, 1]; unfold f10_8 f10_8b
    by_cases e : i = p.Inks.length
    · subst e
      exact ⟨o, by simp, ho, fun _ h => h, fun _ _ h => h, fun d c h1 h2 => by omega⟩
    · have hi : i < p.Inks.length := by omega
      obtain ⟨k, hk, hk2, m, hm, hm2⟩ := f19_25 hp (N := N) hi ho hN
      obtain ⟨o', h1, h2, h3, h4, h5⟩ := ih m (i + 1) hi (by omega) (hm2.set hp hi ho)
      refine ⟨o', ?_, h2, fun j hj => h3 j ((hm2 j).2 (.inl hj)), fun S hS hS2 => h4 S hS fun j hj => ?_, fun d c q1 q2 q3 => ?_⟩
      · simp only [show (i : Int) < (p.Inks.length : Int) by omega, decide_true, cond_true, hk, Option.bind_some]
        rcases hk2 with rfl | ⟨x, rfl, _⟩ <;> (dsimp only; rw [hm]; simp only [Option.bind_some]; rw [W_nat (by omega)]; exact h1)
      · rcases (hm2 j).1 hj with q | ⟨c, q, rfl⟩
        · exact hS2 j q
        · exact hS _ _ (hS2 c q) hi
      · by_cases hd : d = i
        · subst hd; exact h3 _ ((hm2 _).2 (.inr ⟨c, q3, rfl⟩))
        · exact h5 d c (by omega) q2 ((hm2 c).2 (.inl q3))
structure EverIs (p : Palette) (s : Nat) : Prop where
  set : Set8 p s
  cl : ClosedP p fun c => s.testBit c = true
  least : ∀ S, ClosedP p S → S 0 → ∀ j, s.testBit j = true → S j
theorem sub_le {a b : Nat} (h : ∀ j, a.testBit j = true → b.testBit j = true) : a ≤ b := by
  have e : a ||| b = b := by
    apply Nat.eq_of_testBit_eq
    intro j
    rw [Nat.testBit_or]
    cases ha : a.testBit j
    · simp
    · simp [h j ha]
  rw [← e]; exact Nat.left_le_or
theorem f10_eq {p : Palette} (hp : Pal p) {N : Nat} (hN : 2000 ≤ N) : ∃ s, EverIs p s ∧ f10 N p = some (lsI s, 0) := by
  unfold f10
  rw [f24_ok hp (by omega)]
  simp only [Option.bind_some, not_true_eq_false, decide_false, cond_false, joinK]
  have key : ∀ n (s last : Nat), 128 - last < n → last ≤ 127 → Set8 p s → (∀ j, last.testBit j = true → s.testBit j = true) → (∀ d c, d < p.Inks.length → last.testBit c = true → s.testBit (ik p d c) = true) → (∀ S, ClosedP p S → S 0 → ∀ j, s.testBit j = true → S j) →
      ∃ s', EverIs p s' ∧ f10_5 p N (f10_c12 N) n (s : Int) (last : Int) = some (lsI s', 0) := by
    intro n
    induction n with
    | zero => intro s last h; omega
    | succ n ih =>
      intro s last hn hla hs h1 h2 h3
      have hlt := hs.lt hp
      conv => enter [1, s', 2, 1]; unfold f10_5 f10_5b
      by_cases e : s = last
      · subst e
        refine ⟨s, ⟨hs, fun c d hc hd => h2 d c hd hc, h3⟩, ?_⟩
        simp only [not_true_eq_false, decide_false, cond_false]
        unfold f10_c12
        rw [f26_eq (by omega) (by omega)]; rfl
      · have hle := sub_le h1
        simp only [show ¬ (s : Int) = (last : Int) by omega, not_false_eq_true, decide_true, cond_true]
        obtain ⟨o, q1, q2, q3, q4, q5⟩ := f10_in hp (N := N) (s5 := (s : Int)) (r5 := f10_5 p N (f10_c12 N) n) hN N s 0 (by omega) (by have := hp.i6; omega) hs
        obtain ⟨s', w1, w2⟩ := ih o s (by omega) (by omega) q2 q3 (fun d c hd hc => q5 d c (by omega) hd hc) (fun S hS h0 => q4 S hS (h3 S hS h0))
        exact ⟨s', w1, q1.trans w2⟩
  have := key N 1 0 (by omega) (by omega) (Set8.one hp) (fun j hj => by simp at hj) (fun d c hd hc => by simp at hc) (fun S hS h0 j hj => by
    rw [show (1 : Nat) = 2 ^ 0 from rfl, Nat.testBit_two_pow] at hj
    simp at hj; subst hj; exact h0)
  exact this
end Go.Vc
namespace Go.Vc
open Go.Proofs
set_option linter.unusedVariables false
set_option linter.unnecessarySimpa false
set_option linter.unusedSimpArgs false
end Go.Vc
namespace Go.Vc
open Go.Proofs
set_option linter.unusedVariables false
set_option linter.unnecessarySimpa false
set_option linter.unusedSimpArgs false
set_option linter.unusedSimpArgs false
set_option maxRecDepth 100000
end Go.Vc
namespace Go.Vc
open Go.Proofs
set_option linter.unusedVariables false
set_option linter.unnecessarySimpa false
set_option linter.unusedSimpArgs false
set_option linter.unusedSimpArgs false
theorem or16 {m n : Nat} (hm : m < 65536) (hn : n < 65536) : bitsI .or .u16 (m : Int) (n : Int) = ((m ||| n : Nat) : Int) := by
  have e : (BitVec.ofInt 16 (m : Int) ||| BitVec.ofInt 16 (n : Int)).toNat = m ||| n := by
    rw [BitVec.toNat_or, BitVec.ofInt_natCast, BitVec.ofInt_natCast, BitVec.toNat_ofNat, BitVec.toNat_ofNat, Nat.mod_eq_of_lt (show m < 2 ^ 16 by omega), Nat.mod_eq_of_lt (show n < 2 ^ 16 by omega)]
  have e2 : bitsI .or .u16 (m : Int) (n : Int) = IntKind.u16.wrap ((m ||| n : Nat) : Int) := congrArg (fun k : Nat => IntKind.u16.wrap (k : Int)) e
  rw [e2]
  have := Nat.or_lt_two_pow (n := 16) hm hn
  exact wrap_id (by simp [IntKind.min, IntKind.max, IntKind.signed, IntKind.bits]; omega)
theorem and16 {m n : Nat} (hm : m < 65536) (hn : n < 65536) : bitsI .and .u16 (m : Int) (n : Int) = ((m &&& n : Nat) : Int) := by
  have e : (BitVec.ofInt 16 (m : Int) &&& BitVec.ofInt 16 (n : Int)).toNat = m &&& n := by
    rw [BitVec.toNat_and, BitVec.ofInt_natCast, BitVec.ofInt_natCast, BitVec.toNat_ofNat, BitVec.toNat_ofNat, Nat.mod_eq_of_lt (show m < 2 ^ 16 by omega), Nat.mod_eq_of_lt (show n < 2 ^ 16 by omega)]
  have e2 : bitsI .and .u16 (m : Int) (n : Int) = IntKind.u16.wrap ((m &&& n : Nat) : Int) := congrArg (fun k : Nat => IntKind.u16.wrap (k : Int)) e
  rw [e2]
  have := Nat.and_lt_two_pow m (show n < 2 ^ 16 by omega)
  exact wrap_id (by simp [IntKind.min, IntKind.max, IntKind.signed, IntKind.bits]; omega)
theorem sh16 : ∀ c : Nat, c < 16 → Wk .u16 ((1 : Int) * 2 ^ (min (Int.toNat (c : Int)) 16)) = ((2 ^ c : Nat) : Int) := by decide
theorem all16 : ∀ c : Nat, c < 16 → Wk .u16 (Wk .u16 ((1 : Int) * 2 ^ (min (Int.toNat (c : Int)) 16)) - (1 : Int)) = ((2 ^ c - 1 : Nat) : Int) := by decide
theorem pow16 {c : Nat} (h : c < 16) : 2 ^ c < 65536 := Nat.pow_lt_pow_right (by omega) (show c < 16 from h)
theorem f62_eq {N m c : Nat} (hm : m < 65536) (hc : c < 16) : f62 N (m : Int) (c : Int) = some (m.testBit c) := by
  unfold f62
  rw [Int.toNat_natCast, show min c 16 = c by omega]
  have e : Int.fdiv (m : Int) (2 ^ c) = ((m / 2 ^ c : Nat) : Int) := by
    have : (2 : Int) ^ c = ((2 ^ c : Nat) : Int) := by simp
    rw [this, Int.fdiv_eq_ediv_of_nonneg _ (Int.natCast_nonneg _)]; rfl
  have e1 : bitsI .and .u16 ((m / 2 ^ c : Nat) : Int) (1 : Int) = ((m / 2 ^ c % 2 : Nat) : Int) := by
    have := and16 (m := m / 2 ^ c) (n := 1) (by have := Nat.div_le_self m (2 ^ c); omega) (by omega)
    rw [show ((1 : Nat) : Int) = 1 from rfl] at this
    rw [this, Nat.and_one_is_mod]
  rw [e, e1, Nat.testBit_eq_decide_div_mod_eq]
  simp only [chk_nn, Option.bind_some, Option.some.injEq, decide_eq_decide]
  omega
theorem lt16 {m L : Nat} (hL : L ≤ 16) (h : ∀ c, m.testBit c = true → c < L) : m < 65536 := by
  refine Nat.lt_pow_two_of_testBit (n := 16) m fun i hi => ?_
  cases hb : m.testBit i
  · rfl
  · have := h i hb; omega
def cnt (m : Nat) : Nat → Nat
  | 0 => 0
  | k + 1 => cnt m k + if m.testBit k = true then 1 else 0
theorem cnt_le {m : Nat} : ∀ {k : Nat}, cnt m k ≤ k
  | 0 => by simp [cnt]
  | k + 1 => by
    have := cnt_le (m := m) (k := k)
    simp only [cnt]; split <;> omega
theorem cnt_mono {a b : Nat} (h : ∀ j, a.testBit j = true → b.testBit j = true) : ∀ {k : Nat}, cnt a k ≤ cnt b k
  | 0 => by simp [cnt]
  | k + 1 => by
    have := cnt_mono h (k := k)
    simp only [cnt]
    by_cases ha : a.testBit k = true
    · rw [if_pos ha, if_pos (h k ha)]; omega
    · rw [if_neg ha]; split <;> omega
theorem cnt_lt {a b j : Nat} (h : ∀ j, a.testBit j = true → b.testBit j = true) (h1 : b.testBit j = true) (h2 : a.testBit j = false) : ∀ {k : Nat}, j < k → cnt a k < cnt b k
  | 0, hk => by omega
  | k + 1, hk => by
    simp only [cnt]
    by_cases e : j = k
    · subst e
      rw [if_pos h1, h2]
      have := cnt_mono h (k := j)
      simp; omega
    · have := cnt_lt h h1 h2 (k := k) (by omega)
      by_cases ha : a.testBit k = true
      · rw [if_pos ha, if_pos (h k ha)]; omega
      · rw [if_neg ha]; split <;> omega
theorem cnt_one {i : Nat} : ∀ {k : Nat}, i < k → 1 ≤ cnt (2 ^ i) k
  | 0, hk => by omega
  | k + 1, hk => by
    simp only [cnt]
    by_cases e : i = k
    · subst e; simp
    · have := cnt_one (i := i) (k := k) (by omega)
      omega
def ar (A : List Int) (k j : Nat) : Prop := ∃ x : Nat, A[k]? = some (x : Int) ∧ x.testBit j = true
structure Arr (A : List Int) : Prop where
  len : A.length ≤ 12
  nat : ∀ k, k < A.length → ∃ x : Nat, A[k]? = some (x : Int) ∧ ∀ j, x.testBit j = true → j < A.length
def ClosedA (A : List Int) (S : Nat → Prop) : Prop := ∀ k j, S k → ar A k j → S j
def RchA (A : List Int) (a c : Nat) : Prop := ∀ S, ClosedA A S → S a → S c
theorem f61_in {fr : Frame} (hA : Arr fr.arrows) {N : Nat} {v : Int} {k1 : Int → Option Int} : ∀ n (o i : Nat), i ≤ fr.arrows.length → fr.arrows.length - i < n → (∀ c, o.testBit c = true → c < fr.arrows.length) →
    ∃ o' : Nat, f61_5 fr N v k1 n (o : Int) (i : Int) = k1 (o' : Int) ∧ (∀ c, o'.testBit c = true → c < fr.arrows.length) ∧ (∀ j, o.testBit j = true → o'.testBit j = true) ∧ (∀ S, ClosedA fr.arrows S → (∀ j, o.testBit j = true → S j) → ∀ j, o'.testBit j = true → S j) ∧
      ∀ k j, i ≤ k → o.testBit k = true → ar fr.arrows k j → o'.testBit j = true := by
  have hlen := hA.len
  intro n
  induction n with
  | zero => intro o i _ h; omega
  | succ n ih =>
    intro o i hi hn ho
    conv => enter [1, o', 1, 1]; unfold f61_5 f61_5b
    by_cases e : i = fr.arrows.length
    · subst e
      refine ⟨o, by simp, ho, fun _ h => h, fun _ _ h => h, fun k j h1 h2 h3 => ?_⟩
      have := ho k h2; omega
    · have hi : i < fr.arrows.length := by omega
      obtain ⟨x, hx, hx2⟩ := hA.nat i hi
      simp only [show (i : Int) < (fr.arrows.length : Int) by omega, decide_true, cond_true, ix_nat, hx, Option.bind_some, f62_eq (lt16 (by omega) ho) (show i < 16 by omega)]
      cases hb : o.testBit i with
      | false =>
        simp only [cond_false]
        obtain ⟨o', h1, h2, h3, h4, h5⟩ := ih o (i + 1) hi (by omega) ho
        rw [W_nat (by omega)]
        refine ⟨o', h1, h2, h3, h4, fun k j q1 q2 q3 => ?_⟩
        by_cases hk : k = i
        · subst hk; rw [hb] at q2; cases q2
        · exact h5 k j (by omega) q2 q3
      | true =>
        simp only [cond_true]
        rw [or16 (lt16 (by omega) ho) (lt16 (by omega) hx2)]
        have ho2 : ∀ c, (o ||| x).testBit c = true → c < fr.arrows.length := by
          intro c hc
          rw [Nat.testBit_or, Bool.or_eq_true] at hc
          rcases hc with hc | hc
          · exact ho c hc
          · exact hx2 c hc
        obtain ⟨o', h1, h2, h3, h4, h5⟩ := ih (o ||| x) (i + 1) hi (by omega) ho2
        rw [W_nat (by omega)]
        have hm : ∀ j, o.testBit j = true → (o ||| x).testBit j = true := fun j hj => by rw [Nat.testBit_or, hj]; rfl
        refine ⟨o', h1, h2, fun j hj => h3 j (hm j hj), fun S hS hS2 => h4 S hS fun j hj => ?_, fun k j q1 q2 q3 => ?_⟩
        · rw [Nat.testBit_or, Bool.or_eq_true] at hj
          rcases hj with hj | hj
          · exact hS2 j hj
          · exact hS i j (hS2 i hb) ⟨x, hx, hj⟩
        · by_cases hk : k = i
          · subst hk
            obtain ⟨y, hy, hy2⟩ := q3
            rw [hx] at hy
            have : x = y := by have := Option.some.inj hy; omega
            subst this
            exact h3 j (by rw [Nat.testBit_or, hy2]; simp)
          · exact h5 k j (by omega) (hm k q2) q3
theorem f61_eq {fr : Frame} (hA : Arr fr.arrows) {N i : Nat} (hi : i < fr.arrows.length) (hN : 20 ≤ N) : ∃ s : Nat, f61 N fr (i : Int) = some (s : Int) ∧ (∀ c, s.testBit c = true → c < fr.arrows.length) ∧ ∀ k, s.testBit k = true ↔ RchA fr.arrows i k := by
  have hlen := hA.len
  unfold f61
  rw [chk_nn, sh16 i (by omega)]
  simp only [Option.bind_some, joinK]
  have key : ∀ n (o v : Nat), v ≤ fr.arrows.length → fr.arrows.length - v < n → (∀ c, o.testBit c = true → c < fr.arrows.length) → o.testBit i = true → (∀ S, ClosedA fr.arrows S → S i → ∀ j, o.testBit j = true → S j) → (ClosedA fr.arrows (fun c => o.testBit c = true) ∨ v + 1 ≤ cnt o fr.arrows.length) →
      ∃ s : Nat, f61_3 fr N f61_c11 n (o : Int) (v : Int) = some (s : Int) ∧ (∀ c, s.testBit c = true → c < fr.arrows.length) ∧ ∀ k, s.testBit k = true ↔ RchA fr.arrows i k := by
    intro n
    induction n with
    | zero => intro o v _ h; omega
    | succ n ih =>
      intro o v hv hn ho h0 h1 h2
      conv => enter [1, s, 1, 1]; unfold f61_3 f61_3b
      by_cases e : v = fr.arrows.length
      · subst e
        have hc : ClosedA fr.arrows (fun c => o.testBit c = true) := by
          rcases h2 with h2 | h2
          · exact h2
          · have := cnt_le (m := o) (k := fr.arrows.length); omega
        refine ⟨o, by simp [f61_c11], ho, fun k => ⟨fun hk S hS hi => h1 S hS hi k hk, fun hk => hk _ hc h0⟩⟩
      · simp only [show (v : Int) < (fr.arrows.length : Int) by omega, decide_true, cond_true, joinK]
        obtain ⟨o', q1, q2, q3, q4, q5⟩ := f61_in hA (N := N) (v := (v : Int)) (k1 := f61_c10 fr (v : Int) (f61_3 fr N f61_c11 n)) N o 0 (by omega) (by omega) ho
        rw [show ((0 : Nat) : Int) = 0 from rfl] at q1
        rw [q1]
        unfold f61_c10
        rw [W_nat (by omega)]
        refine ih o' (v + 1) (by omega) (by omega) q2 (q3 i h0) (fun S hS hi => q4 S hS (h1 S hS hi)) ?_
        by_cases hx : ∃ j, o'.testBit j = true ∧ o.testBit j = false
        · obtain ⟨j, j1, j2⟩ := hx
          have hlt := cnt_lt q3 j1 j2 (k := fr.arrows.length) (q2 j j1)
          rcases h2 with h2 | h2
          · have := q4 _ h2 (fun j hj => hj) j j1
            rw [j2] at this; cases this
          · right; omega
        · left
          intro k j hk hkj
          have : o.testBit k = true := by
            cases hb : o.testBit k
            · exact absurd ⟨k, hk, hb⟩ hx
            · rfl
          exact q5 k j (by omega) this hkj
  have := key N (2 ^ i) 0 (by omega) (by omega) (fun c hc => by rw [Nat.testBit_two_pow] at hc; simp at hc; omega) (by simp) (fun S hS hi j hj => by rw [Nat.testBit_two_pow] at hj; simp at hj; subst hj; exact hi) (.inr (cnt_one hi))
  exact this
open Classical in
theorem f34_eq {fr : Frame} (hA : Arr fr.arrows) {N n : Nat} (hr : fr.Rack_.Rows = (n : Int)) (hc : fr.Rack_.Columns = (n : Int)) (hn : fr.arrows.length = n + n) (h1 : 1 ≤ n) (hN : 20 ≤ N) :
    f34 N fr = some (decide (∀ k, k < n + n → RchA fr.arrows 0 k ∧ RchA fr.arrows k 0)) := by
  have hlen := hA.len
  have hall : f54 N fr = some ((2 ^ (n + n) - 1 : Nat) : Int) := by
    unfold f54
    rw [hr, hc, show W ((n : Int) + (n : Int)) = ((n + n : Nat) : Int) from by rw [W_of (by omega) (by omega)]; omega, chk_nn, all16 _ (by omega)]; rfl
  have htog : ∃ s : Nat, f53 N fr 0 = some (s : Int) ∧ ∀ k, s.testBit k = true ↔ k < n + n ∧ RchA fr.arrows 0 k ∧ RchA fr.arrows k 0 := by
    unfold f53
    obtain ⟨m, m1, m2, m3⟩ := f61_eq hA (N := N) (i := 0) (by omega) hN
    rw [show ((0 : Nat) : Int) = 0 from rfl] at m1
    rw [m1]
    simp only [Option.bind_some, joinK]
    have := loopI (F := fun nn (s : Nat) i => f53_4 fr 0 N (m : Int) f53_c9 nn (s : Int) i) (n + n) (fun i o => ∀ k, o.testBit k = true ↔ k < i ∧ RchA fr.arrows 0 k ∧ RchA fr.arrows k 0)
      (fun r => ∃ s : Nat, r = (s : Int) ∧ ∀ k, s.testBit k = true ↔ k < n + n ∧ RchA fr.arrows 0 k ∧ RchA fr.arrows k 0) (by
      intro nn s i hI hi
      have hs16 : s < 65536 := lt16 (L := n + n) (by omega) fun c hc => by have := (hI c).1 hc; omega
      obtain ⟨q, q1, q2, q3⟩ := f61_eq hA (N := N) (i := i) (by omega) hN
      have w : W ((i : Int) + 1) = ((i + 1 : Nat) : Int) := W_nat (by omega)
      have body : f53_4 fr 0 N (m : Int) f53_c9 (nn + 1) (s : Int) (i : Int) = bif m.testBit i && q.testBit 0 then f53_4 fr 0 N (m : Int) f53_c9 nn ((s ||| 2 ^ i : Nat) : Int) ((i + 1 : Nat) : Int) else f53_4 fr 0 N (m : Int) f53_c9 nn (s : Int) ((i + 1 : Nat) : Int) := by
        conv => lhs; unfold f53_4 f53_4b
        have z := f62_eq (N := N) (m := q) (c := 0) (lt16 (by omega) q2) (by omega)
        rw [show ((0 : Nat) : Int) = 0 from rfl] at z
        simp only [show (i : Int) < (fr.arrows.length : Int) by omega, decide_true, cond_true, f62_eq (N := N) (m := m) (c := i) (lt16 (by omega) m2) (by omega), Option.bind_some, q1, z, chk_nn, w]
        cases m.testBit i <;> cases q.testBit 0 <;> simp only [Bool.and_self, Bool.and_true, Bool.and_false, Bool.false_and, cond_true, cond_false]
        rw [sh16 i (by omega), or16 hs16 (pow16 (by omega))]
      rw [body]
      by_cases hb : m.testBit i = true ∧ q.testBit 0 = true
      · rw [hb.1, hb.2]
        refine .inr ⟨s ||| 2 ^ i, fun k => ?_, rfl⟩
        rw [Nat.testBit_or, Nat.testBit_two_pow, Bool.or_eq_true, hI k, decide_eq_true_eq]
        constructor
        · rintro (⟨h, h'⟩ | rfl)
          · exact ⟨by omega, h'⟩
          · exact ⟨by omega, (m3 _).1 hb.1, (q3 _).1 hb.2⟩
        · rintro ⟨h, h'⟩
          by_cases e : i = k
          · exact .inr e
          · exact .inl ⟨by omega, h'⟩
      · rw [show (m.testBit i && q.testBit 0) = false by
          cases h1 : m.testBit i <;> cases h2 : q.testBit 0 <;> simp [h1, h2] at hb ⊢]
        refine .inr ⟨s, fun k => ?_, rfl⟩
        rw [hI k]
        constructor
        · rintro ⟨h, h'⟩; exact ⟨by omega, h'⟩
        · rintro ⟨h, h'⟩
          by_cases e : i = k
          · subst e; exact absurd ⟨(m3 _).2 h'.1, (q3 _).2 h'.2⟩ hb
          · exact ⟨by omega, h'⟩) (by
      intro nn s hI
      refine ⟨(s : Int), ?_, s, rfl, hI⟩
      conv => lhs; unfold f53_4 f53_4b
      rw [hn]; simp [f53_c9]) N 0 0 (fun k => by simp) (by omega) (by omega)
    obtain ⟨r, r1, s, rfl, r3⟩ := this
    exact ⟨s, r1, r3⟩
  obtain ⟨s, s1, s2⟩ := htog
  unfold f34
  rw [s1, hall]
  simp only [Option.bind_some, Option.some.injEq, decide_eq_decide]
  constructor
  · intro h k hk
    have : s = 2 ^ (n + n) - 1 := by omega
    exact ((s2 k).1 (by rw [this, Nat.testBit_two_pow_sub_one]; simp [hk])).2
  · intro h
    have : s = 2 ^ (n + n) - 1 := by
      apply Nat.eq_of_testBit_eq
      intro k
      rw [Nat.testBit_two_pow_sub_one]
      by_cases hk : k < n + n
      · rw [(s2 k).2 ⟨hk, h k hk⟩]; simp [hk]
      · cases hb : s.testBit k
        · simp [hk]
        · exact absurd ((s2 k).1 hb).1 hk
    rw [this]
structure RackOk (r : Rack) (n : Nat) : Prop where
  hn : 2 ≤ n ∧ n ≤ 6
  rows : r.Rows = (n : Int)
  cols : r.Columns = (n : Int)
  few : r.Braces.length ≤ 24
  br : ∀ b, b ∈ r.Braces → ∃ i j k : Nat, b = ⟨(i : Int), (j : Int), (k : Int)⟩ ∧ i < n ∧ j < n ∧ k ≤ 2
theorem f38_eq {N : Nat} {a b c : Int} : f38 N a b c = some (decide (a ≤ b ∧ b ≤ c)) := by
  unfold f38
  by_cases h : a ≤ b <;> simp [h]
theorem RackOk.at {r : Rack} {n : Nat} (h : RackOk r n) {v : Nat} (hv : v < r.Braces.length) : ∃ i j k : Nat, ix r.Braces (v : Int) = some ⟨(i : Int), (j : Int), (k : Int)⟩ ∧ i < n ∧ j < n ∧ k ≤ 2 ∧ r.Braces[v] = ⟨(i : Int), (j : Int), (k : Int)⟩ := by
  obtain ⟨i, j, k, e, h1, h2, h3⟩ := h.br _ (List.getElem_mem hv)
  exact ⟨i, j, k, by rw [ix_get hv, e], h1, h2, h3, e⟩
theorem f32_ok {r : Rack} {n : Nat} (h : RackOk r n) {N : Nat} (hN : 30 ≤ N) : f32 N r = some 0 := by
  have hn := h.hn; have hf := h.few
  unfold f32
  rw [f38_eq, f38_eq, h.rows, h.cols, show decide ((1 : Int) ≤ (n : Int) ∧ (n : Int) ≤ 6) = true by simp; omega]
  simp only [Option.bind_some, Bool.not_true, cond_false, show ¬ (24 : Int) < (r.Braces.length : Int) by omega, decide_false, joinK]
  rw [loop_ex0 (F := f32_6 r N f32_c13) (e := some 0) (k0 := f32_c13) (p := fun _ => False) r.Braces.length]
  · simp; rfl
  · intro m v hv
    rw [if_neg (by simp)]
    obtain ⟨i, j, k, e, h1, h2, h3, _⟩ := h.at hv
    conv => lhs; unfold f32_6 f32_6b
    have w : W ((n : Int) - 1) = (n : Int) - 1 := W_of (by omega) (by omega)
    simp only [show (v : Int) < (r.Braces.length : Int) by omega, decide_true, cond_true, e, Option.bind_some, f38_eq, h.rows, h.cols, w]
    rw [show decide ((0 : Int) ≤ (i : Int) ∧ (i : Int) ≤ (n : Int) - 1) = true by simp; omega, show decide ((0 : Int) ≤ (j : Int) ∧ (j : Int) ≤ (n : Int) - 1) = true by simp; omega, show decide ((0 : Int) ≤ (k : Int) ∧ (k : Int) ≤ 2) = true by simp; omega]
    simp only [Bool.not_true, cond_false]
    rw [W_nat (by omega)]
  · intro m; (conv => lhs; unfold f32_6 f32_6b); simp
  · omega
def bArr (n : Nat) (b : Brace) (k j : Nat) : Prop := (b.Kind ≠ 2 ∧ (k : Int) = b.Row ∧ (j : Int) = n + b.Column) ∨ (b.Kind ≠ 1 ∧ (k : Int) = n + b.Column ∧ (j : Int) = b.Row)
structure ArrAt (r : Rack) (n v : Nat) (A : List Int) : Prop where
  len : A.length = n + n
  nat : ∀ k, k < n + n → ∃ x : Nat, A[k]? = some (x : Int) ∧ ∀ j, x.testBit j = true ↔ ∃ q, ∃ hq : q < r.Braces.length, q < v ∧ bArr n r.Braces[q] k j
theorem ArrAt.lt {r : Rack} {n v : Nat} {A : List Int} (hr : RackOk r n) (h : ArrAt r n v A) {k x : Nat} (hk : A[k]? = some (x : Int)) {j : Nat} (hj : x.testBit j = true) : j < n + n := by
  have hkn : k < n + n := by rw [← h.len]; exact (List.getElem?_eq_some_iff.1 hk).1
  obtain ⟨y, hy, hy2⟩ := h.nat k hkn
  rw [hk] at hy
  have : x = y := by have := Option.some.inj hy; omega
  subst this
  obtain ⟨q, hq, _, hb⟩ := (hy2 j).1 hj
  obtain ⟨i, jj, kk, e, h1, h2, _⟩ := hr.br _ (List.getElem_mem hq)
  rw [e] at hb
  unfold bArr at hb
  dsimp only at hb
  omega
theorem setA {A : List Int} {n k m : Nat} {f g : Nat → Nat → Prop} (hl : A.length = n + n) (hk : k < n + n) (hm : m < 16) (h16 : n + n ≤ 16)
    (h : ∀ q, q < n + n → ∃ x : Nat, A[q]? = some (x : Int) ∧ ∀ j, x.testBit j = true ↔ f q j) (hlt : ∀ q j, q < n + n → f q j → j < n + n) (hg : ∀ q j, q < n + n → (g q j ↔ f q j ∨ (q = k ∧ j = m))) :
    ∃ x A', ix A (k : Int) = some x ∧ setx A (k : Int) (bitsI .or .u16 x (Wk .u16 ((1 : Int) * 2 ^ (min (Int.toNat (m : Int)) 16)))) = some A' ∧ A'.length = n + n ∧ ∀ q, q < n + n → ∃ x : Nat, A'[q]? = some (x : Int) ∧ ∀ j, x.testBit j = true ↔ g q j := by
  obtain ⟨x, hx, hx2⟩ := h k hk
  have hx16 : x < 65536 := lt16 (L := n + n) h16 fun c hc => hlt k c hk ((hx2 c).1 hc)
  refine ⟨(x : Int), A.set k ((x ||| 2 ^ m : Nat) : Int), by rw [ix_nat, hx], ?_, by simp [hl], fun q hq => ?_⟩
  · rw [sh16 m hm, or16 hx16 (pow16 hm)]
    unfold setx
    rw [if_pos ⟨by omega, by omega⟩, Int.toNat_natCast]
  · by_cases e : q = k
    · subst e
      refine ⟨x ||| 2 ^ m, by rw [List.getElem?_set, if_pos rfl, if_pos (by omega)], fun j => ?_⟩
      rw [Nat.testBit_or, Nat.testBit_two_pow, Bool.or_eq_true, hx2 j, hg q j hq, decide_eq_true_eq]
      constructor
      · rintro (h | h)
        · exact .inl h
        · exact .inr ⟨rfl, h.symm⟩
      · rintro (h | h)
        · exact .inl h
        · exact .inr h.2.symm
    · obtain ⟨y, hy, hy2⟩ := h q hq
      refine ⟨y, by rw [List.getElem?_set, if_neg (fun hh => e hh.symm), hy], fun j => ?_⟩
      rw [hy2 j, hg q j hq]
      constructor
      · exact .inl
      · rintro (h | h)
        · exact h
        · exact absurd h.1 e
theorem f33_eq {r : Rack} {n : Nat} (hr : RackOk r n) {N : Nat} (hN : 30 ≤ N) : ∃ A, f33 N r (-1) = some ⟨r, A⟩ ∧ ArrAt r n r.Braces.length A := by
  have hn := hr.hn; have hf := hr.few
  unfold f33
  rw [hr.rows, hr.cols, show W ((n : Int) + (n : Int)) = ((n + n : Nat) : Int) from by rw [W_of (by omega) (by omega)]; omega]
  have hmk : mkS 2 (0 : Int) ((n + n : Nat) : Int) ((n + n : Nat) : Int) = some (List.replicate (n + n) 0) := by
    unfold mkS
    rw [if_pos ⟨by omega, by omega, by omega⟩, Int.toNat_natCast]
  rw [hmk]
  simp only [Option.bind_some, joinK]
  have := loopI (F := fun m (A : List Int) v => f33_3 r (-1) (f33_c11 r) m v A) r.Braces.length (fun v A => ArrAt r n v A) (fun (fr : Frame) => ∃ A, fr = ⟨r, A⟩ ∧ ArrAt r n r.Braces.length A) (by
    intro m A v hI hv
    obtain ⟨i, j, k, e, h1, h2, h3, h4⟩ := hr.at hv
    have w : W ((n : Int) + (j : Int)) = ((n + j : Nat) : Int) := by rw [W_of (by omega) (by omega)]; omega
    have w1 : W ((v : Int) + 1) = ((v + 1 : Nat) : Int) := W_nat (by omega)
    -- the first half of the brace
    have s1 : ∃ A1, (A1.length = n + n ∧ ∀ q, q < n + n → ∃ x : Nat, A1[q]? = some (x : Int) ∧ ∀ c, x.testBit c = true ↔ (∃ q', ∃ hq : q' < r.Braces.length, q' < v ∧ bArr n r.Braces[q'] q c) ∨ (k ≠ 2 ∧ q = i ∧ c = n + j)) ∧
        f33_3 r (-1) (f33_c11 r) (m + 1) (v : Int) A = f33_c8 r (-1) (v : Int) (f33_3 r (-1) (f33_c11 r) m) ⟨(i : Int), (j : Int), (k : Int)⟩ A1 := by
      conv => enter [1, A1, 2, 1]; unfold f33_3 f33_3b
      simp only [show (v : Int) < (r.Braces.length : Int) by omega, decide_true, cond_true, e, Option.bind_some, joinK, show ¬ (v : Int) = -1 by omega, not_false_eq_true, hr.rows, w]
      by_cases hk : k = 2
      · subst hk
        refine ⟨A, ⟨hI.len, fun q hq => ?_⟩, by simp⟩
        obtain ⟨x, x1, x2⟩ := hI.nat q hq
        exact ⟨x, x1, fun c => by rw [x2 c]; simp⟩
      · simp only [show ¬ (k : Int) = 2 by omega, not_false_eq_true, decide_true, cond_true, chk_nn]
        obtain ⟨x, A', a1, a2, a3, a4⟩ := setA (A := A) (n := n) (k := i) (m := n + j) (f := fun q c => ∃ q', ∃ hq : q' < r.Braces.length, q' < v ∧ bArr n r.Braces[q'] q c) (g := fun q c => (∃ q', ∃ hq : q' < r.Braces.length, q' < v ∧ bArr n r.Braces[q'] q c) ∨ (k ≠ 2 ∧ q = i ∧ c = n + j)) hI.len (by omega) (by omega) (by omega) hI.nat
          (fun q c hq hf' => by obtain ⟨x, x1, x2⟩ := hI.nat q hq; exact hI.lt hr x1 ((x2 c).2 hf')) (fun q c hq => by simp [hk])
        refine ⟨A', ⟨a3, a4⟩, ?_⟩
        simp only [a1, a2, Option.bind_some]
    obtain ⟨A1, ⟨l1, g1⟩, e1⟩ := s1
    have s2 : ∃ A2, (A2.length = n + n ∧ ∀ q, q < n + n → ∃ x : Nat, A2[q]? = some (x : Int) ∧ ∀ c, x.testBit c = true ↔ ((∃ q', ∃ hq : q' < r.Braces.length, q' < v ∧ bArr n r.Braces[q'] q c) ∨ (k ≠ 2 ∧ q = i ∧ c = n + j)) ∨ (k ≠ 1 ∧ q = n + j ∧ c = i)) ∧
        f33_c8 r (-1) (v : Int) (f33_3 r (-1) (f33_c11 r) m) ⟨(i : Int), (j : Int), (k : Int)⟩ A1 = f33_3 r (-1) (f33_c11 r) m ((v + 1 : Nat) : Int) A2 := by
      unfold f33_c8
      simp only [show ¬ (v : Int) = -1 by omega, not_false_eq_true, decide_true, cond_true, hr.rows, w, w1]
      by_cases hk : k = 1
      · subst hk
        refine ⟨A1, ⟨l1, fun q hq => ?_⟩, by simp⟩
        obtain ⟨x, x1, x2⟩ := g1 q hq
        exact ⟨x, x1, fun c => by rw [x2 c]; simp⟩
      · simp only [show ¬ (k : Int) = 1 by omega, not_false_eq_true, decide_true, cond_true, chk_nn]
        obtain ⟨x, A', a1, a2, a3, a4⟩ := setA (A := A1) (n := n) (k := n + j) (m := i) (f := fun q c => (∃ q', ∃ hq : q' < r.Braces.length, q' < v ∧ bArr n r.Braces[q'] q c) ∨ (k ≠ 2 ∧ q = i ∧ c = n + j)) (g := fun q c => ((∃ q', ∃ hq : q' < r.Braces.length, q' < v ∧ bArr n r.Braces[q'] q c) ∨ (k ≠ 2 ∧ q = i ∧ c = n + j)) ∨ (k ≠ 1 ∧ q = n + j ∧ c = i)) l1 (by omega) (by omega) (by omega) g1
          (fun q c hq hf' => by
            rcases hf' with hf' | hf'
            · obtain ⟨x, x1, x2⟩ := hI.nat q hq; exact hI.lt hr x1 ((x2 c).2 hf')
            · omega) (fun q c hq => by simp [hk])
        refine ⟨A', ⟨a3, a4⟩, ?_⟩
        simp only [a1, a2, Option.bind_some]
    obtain ⟨A2, ⟨l2, g2⟩, e2⟩ := s2
    refine .inr ⟨A2, ⟨l2, fun q hq => ?_⟩, e1.trans e2⟩
    obtain ⟨x, x1, x2⟩ := g2 q hq
    refine ⟨x, x1, fun c => ?_⟩
    rw [x2 c]
    constructor
    · rintro ((⟨q', hq', h5, h6⟩ | h5) | h5)
      · exact ⟨q', hq', by omega, h6⟩
      · exact ⟨v, hv, by omega, by rw [h4]; unfold bArr; dsimp only; omega⟩
      · exact ⟨v, hv, by omega, by rw [h4]; unfold bArr; dsimp only; omega⟩
    · rintro ⟨q', hq', h5, h6⟩
      by_cases hv' : q' = v
      · subst hv'
        rw [h4] at h6
        unfold bArr at h6
        dsimp only at h6
        rcases h6 with h6 | h6
        · exact .inl (.inr ⟨by omega, by omega, by omega⟩)
        · exact .inr ⟨by omega, by omega, by omega⟩
      · exact .inl (.inl ⟨q', hq', by omega, h6⟩)) (by
    intro m A hI
    refine ⟨⟨r, A⟩, ?_, A, rfl, hI⟩
    conv => lhs; unfold f33_3 f33_3b
    simp [f33_c11]) N (List.replicate (n + n) 0) 0 ⟨by simp, fun k hk => ⟨0, by rw [List.getElem?_replicate, if_pos hk]; rfl, fun j => by simp⟩⟩ (by omega) (by omega)
  obtain ⟨fr, h1, A, rfl, h2⟩ := this
  exact ⟨A, h1, h2⟩
theorem ArrAt.arr {r : Rack} {n : Nat} {A : List Int} (hr : RackOk r n) (h : ArrAt r n r.Braces.length A) : Arr A := by
  have hn := hr.hn
  refine ⟨by rw [h.len]; omega, fun k hk => ?_⟩
  rw [h.len] at hk ⊢
  obtain ⟨x, x1, x2⟩ := h.nat k hk
  exact ⟨x, x1, fun j hj => h.lt hr x1 hj⟩
theorem ArrAt.iff {r : Rack} {n : Nat} {A : List Int} (h : ArrAt r n r.Braces.length A) {k j : Nat} : ar A k j ↔ k < n + n ∧ ∃ b, b ∈ r.Braces ∧ bArr n b k j := by
  constructor
  · rintro ⟨x, x1, x2⟩
    have hk : k < n + n := by rw [← h.len]; exact (List.getElem?_eq_some_iff.1 x1).1
    obtain ⟨y, y1, y2⟩ := h.nat k hk
    rw [x1] at y1
    have : x = y := by have := Option.some.inj y1; omega
    subst this
    obtain ⟨q, hq, _, hb⟩ := (y2 j).1 x2
    exact ⟨hk, _, List.getElem_mem hq, hb⟩
  · rintro ⟨hk, b, hb, h1⟩
    obtain ⟨y, y1, y2⟩ := h.nat k hk
    obtain ⟨q, hq⟩ := List.mem_iff_getElem?.1 hb
    obtain ⟨hq1, hq2⟩ := List.getElem?_eq_some_iff.1 hq
    exact ⟨y, y1, (y2 j).2 ⟨q, hq1, hq1, by rw [hq2]; exact h1⟩⟩
end Go.Vc
namespace Go.Vc
open Go.Proofs
set_option linter.unusedVariables false
set_option linter.unnecessarySimpa false
set_option linter.unusedSimpArgs false
set_option linter.unusedSimpArgs false
set_option maxRecDepth 100000
theorem f13_any (n : Nat) : f13 (n + 200) = some true := by kernel_rfl
def Rch (p : Palette) (a c : Nat) : Prop := ∀ S, ClosedP p S → S a → S c
theorem EverIs.iff {p : Palette} {s : Nat} (h : EverIs p s) {c : Nat} : s.testBit c = true ↔ Rch p 0 c :=
  ⟨fun hc S hS h0 => h.least S hS h0 c hc, fun hc => hc _ h.cl h.set.lo⟩
theorem Rch.trans {p : Palette} {a b c : Nat} (h1 : Rch p a b) (h2 : Rch p b c) : Rch p a c := fun S hS ha => h2 S hS (h1 S hS ha)
theorem lsN_all {m n : Nat} (hn : n ≤ 7) (h : ∀ c, m.testBit c = true → c < n) : (lsN m).length = n ↔ ∀ c, c < n → m.testBit c = true := by
  constructor
  · intro hl c hc
    have e : lsN m = (List.range n).filter fun c => m.testBit c := by
      unfold lsN
      obtain ⟨k, hk⟩ : ∃ k, 7 = n + k := ⟨7 - n, by omega⟩
      rw [hk, List.range_add, List.filter_append]
      rw [show ((List.range k).map fun x => n + x).filter (fun c => m.testBit c) = [] from List.filter_eq_nil_iff.2 (fun x hx hb => by
        obtain ⟨y, _, rfl⟩ := List.mem_map.1 hx
        have := h _ hb; omega), List.append_nil]
    rw [e] at hl
    have := List.length_filter_eq_length_iff.1 (hl.trans (List.length_range (n := n)).symm) c (by simp [hc])
    exact this
  · intro hall
    rw [lsN_full hn (fun c => ⟨h c, hall c⟩)]; simp
structure RackP (r : Rack) (p : Palette) (n : Nat) : Prop extends RackOk r n where
  col : p.Colours = (n : Int)
  mem : ∀ b, b ∈ r.Braces ↔ (∃ c : Nat, c < n ∧ b = ⟨(c : Int), (c : Int), 0⟩) ∨ ∃ d c : Nat, d < p.Inks.length ∧ c < n ∧ b = ⟨(c : Int), ((ik p d c : Nat) : Int), 1⟩
theorem RackP.arrow {r : Rack} {p : Palette} {n : Nat} {A : List Int} (h : RackP r p n) (hA : ArrAt r n r.Braces.length A) {k j : Nat} :
    ar A k j ↔ k < n + n ∧ ((∃ c, c < n ∧ ((k = c ∧ j = n + c) ∨ (k = n + c ∧ j = c))) ∨ ∃ d c, d < p.Inks.length ∧ c < n ∧ k = c ∧ j = n + ik p d c) := by
  rw [hA.iff]
  refine and_congr_right fun hk => ?_
  constructor
  · rintro ⟨b, hb, h1⟩
    rcases (h.mem b).1 hb with ⟨c, hc, rfl⟩ | ⟨d, c, hd, hc, rfl⟩
    · unfold bArr at h1; dsimp only at h1
      exact .inl ⟨c, hc, by omega⟩
    · unfold bArr at h1; dsimp only at h1
      exact .inr ⟨d, c, hd, hc, by omega⟩
  · rintro (⟨c, hc, h1⟩ | ⟨d, c, hd, hc, h1, h2⟩)
    · exact ⟨_, (h.mem _).2 (.inl ⟨c, hc, rfl⟩), by unfold bArr; dsimp only; omega⟩
    · exact ⟨_, (h.mem _).2 (.inr ⟨d, c, hd, hc, rfl⟩), by unfold bArr; dsimp only; omega⟩
def colOf (n x : Nat) : Nat := if x < n then x else x - n
theorem RackP.reach {r : Rack} {p : Palette} {n : Nat} {A : List Int} (h : RackP r p n) (hp : Pal p) (hA : ArrAt r n r.Braces.length A) {x y : Nat} (hx : x < n + n) (hy : y < n + n) : RchA A x y ↔ Rch p (colOf n x) (colOf n y) := by
  have hn := h.hn
  constructor
  · intro hr S hS h0
    have := hr (fun k => k < n + n ∧ S (colOf n k)) (fun k j ⟨hk, hk2⟩ hkj => by
      obtain ⟨_, h2⟩ := (h.arrow hA).1 hkj
      rcases h2 with ⟨c, hc, h2⟩ | ⟨d, c, hd, hc, rfl, rfl⟩
      · rcases h2 with ⟨rfl, rfl⟩ | ⟨rfl, rfl⟩
        · refine ⟨by omega, ?_⟩
          have e1 : colOf n k = k := if_pos hc
          have e2 : colOf n (n + k) = k := by unfold colOf; rw [if_neg (by omega)]; omega
          rw [e1] at hk2; rw [e2]; exact hk2
        · refine ⟨by omega, ?_⟩
          have e1 : colOf n j = j := if_pos hc
          have e2 : colOf n (n + j) = j := by unfold colOf; rw [if_neg (by omega)]; omega
          rw [e2] at hk2; rw [e1]; exact hk2
      · have hi := (hp.ik hd (c := k) (by rw [h.col]; omega)).2
        rw [h.col] at hi
        refine ⟨by omega, ?_⟩
        have e1 : colOf n k = k := if_pos hc
        have e2 : colOf n (n + ik p d k) = ik p d k := by unfold colOf; rw [if_neg (by omega)]; omega
        rw [e1] at hk2; rw [e2]; exact hS k d hk2 hd) ⟨hx, h0⟩
    exact this.2
  · intro hr S hS h0
    have up : ∀ c, c < n → (S c ↔ S (n + c)) := fun c hc => ⟨fun hh => hS c (n + c) hh ((h.arrow hA).2 ⟨by omega, .inl ⟨c, hc, .inl ⟨rfl, rfl⟩⟩⟩), fun hh => hS (n + c) c hh ((h.arrow hA).2 ⟨by omega, .inl ⟨c, hc, .inr ⟨rfl, rfl⟩⟩⟩)⟩
    have both : ∀ x, x < n + n → (S x ↔ S (colOf n x)) := by
      intro x hx
      unfold colOf
      by_cases hh : x < n
      · rw [if_pos hh]
      · rw [if_neg hh]
        have := up (x - n) (by omega)
        rw [show n + (x - n) = x by omega] at this
        exact this.symm
    have := hr (fun c => c < n ∧ S c) (fun c d ⟨hc, hc2⟩ hd => by
      have hi := (hp.ik hd (c := c) (by rw [h.col]; omega)).2
      rw [h.col] at hi
      refine ⟨by omega, (up _ (by omega)).2 (hS c _ hc2 ((h.arrow hA).2 ⟨by omega, .inr ⟨d, c, hd, hc, rfl, rfl⟩⟩))⟩) ⟨by unfold colOf; split <;> omega, (both x hx).1 h0⟩
    exact (both y hy).2 this.2
theorem RackP.stiff {r : Rack} {p : Palette} {n : Nat} {A : List Int} (h : RackP r p n) (hp : Pal p) (hA : ArrAt r n r.Braces.length A) : (∀ k, k < n + n → RchA A 0 k ∧ RchA A k 0) ↔ ∀ a, a < n → ∀ c, c < n → Rch p a c := by
  have hn := h.hn
  have e0 : colOf n 0 = 0 := if_pos (by omega)
  constructor
  · intro hall a ha c hc
    have h1 := (h.reach hp hA (by omega) (by omega)).1 (hall a (by omega)).2
    have h2 := (h.reach hp hA (by omega) (by omega)).1 (hall c (by omega)).1
    rw [e0] at h1 h2
    have ea : colOf n a = a := if_pos ha
    have ec : colOf n c = c := if_pos hc
    rw [ea] at h1; rw [ec] at h2
    exact h1.trans h2
  · intro hall k hk
    have hc : colOf n k < n := by unfold colOf; split <;> omega
    refine ⟨(h.reach hp hA (by omega) hk).2 ?_, (h.reach hp hA hk (by omega)).2 ?_⟩ <;> rw [e0]
    · exact hall 0 (by omega) _ hc
    · exact hall _ hc 0 (by omega)
open Classical in
theorem f15_eq {r : Rack} {p : Palette} {n : Nat} (h : RackP r p n) (hp : Pal p) {N : Nat} (hN : 40 ≤ N) : f15 N r = some (decide (∀ a, a < n → ∀ c, c < n → Rch p a c), 0) := by
  have hn := h.hn
  obtain ⟨A, hf, hA⟩ := f33_eq h.toRackOk (N := N) (by omega)
  unfold f15
  rw [f32_ok h.toRackOk (by omega), hf]
  simp only [Option.bind_some, not_true_eq_false, decide_false, cond_false]
  rw [f34_eq (fr := ⟨r, A⟩) (hA.arr h.toRackOk) (n := n) h.rows h.cols hA.len (by omega) (by omega)]
  simp only [Option.bind_some, Option.some.injEq, Prod.mk.injEq, and_true, decide_eq_decide]
  exact h.stiff hp hA
theorem f39_eq2 {N : Nat} {l : List Int} (h1 : 1 ≤ l.length) (h2 : l.length ≤ 1000) (hN : 2000 ≤ N) : ∃ M, f39 N l = some M ∧ (∀ j, j < l.length → l.getD j 0 ≤ M) ∧ ∃ j, j < l.length ∧ l.getD j 0 = M := by
  unfold f39
  simp only [show ¬ (l.length : Int) < 1 by omega, decide_false, cond_false, joinK]
  have h0 : ix l (0 : Int) = some (l.getD 0 0) := ix_getD (i := 0) (by omega)
  rw [h0]
  simp only [Option.bind_some]
  have := loopI (F := fun n s i => f39_5 l f39_c8 n s i) l.length (fun i m => (∀ j, j < i → l.getD j 0 ≤ m) ∧ ∃ j, j < l.length ∧ l.getD j 0 = m) (fun M => (∀ j, j < l.length → l.getD j 0 ≤ M) ∧ ∃ j, j < l.length ∧ l.getD j 0 = M) (by
    intro n s i ⟨hI, q, hq, hq2⟩ hi
    refine .inr ⟨max s (l.getD i 0), ⟨fun j hj => ?_, ?_⟩, ?_⟩
    · by_cases e : j = i
      · subst e; omega
      · have := hI j (by omega); omega
    · by_cases e : s ≤ l.getD i 0
      · exact ⟨i, hi, by omega⟩
      · exact ⟨q, hq, by omega⟩
    · conv => lhs; unfold f39_5 f39_5b
      simp only [show (i : Int) < (l.length : Int) by omega, decide_true, cond_true, ix_getD hi, Option.bind_some]
      rw [W_nat (by omega)]) (by
    intro n s hI
    refine ⟨s, ?_, hI⟩
    (conv => lhs; unfold f39_5 f39_5b); simp [f39_c8]) N (l.getD 0 0) 1 ⟨fun j hj => by rw [show j = 0 by omega]; exact Int.le_refl _, 0, by omega, rfl⟩ (by omega) (by omega)
  exact this
theorem f40_eq2 {N : Nat} {l : List Int} (h1 : 1 ≤ l.length) (h2 : l.length ≤ 1000) (hN : 2000 ≤ N) : ∃ M, f40 N l = some M ∧ (∀ j, j < l.length → M ≤ l.getD j 0) ∧ ∃ j, j < l.length ∧ l.getD j 0 = M := by
  unfold f40
  simp only [show ¬ (l.length : Int) < 1 by omega, decide_false, cond_false, joinK]
  have h0 : ix l (0 : Int) = some (l.getD 0 0) := ix_getD (i := 0) (by omega)
  rw [h0]
  simp only [Option.bind_some]
  have := loopI (F := fun n s i => f40_5 l f40_c8 n s i) l.length (fun i m => (∀ j, j < i → m ≤ l.getD j 0) ∧ ∃ j, j < l.length ∧ l.getD j 0 = m) (fun M => (∀ j, j < l.length → M ≤ l.getD j 0) ∧ ∃ j, j < l.length ∧ l.getD j 0 = M) (by
    intro n s i ⟨hI, q, hq, hq2⟩ hi
    refine .inr ⟨min s (l.getD i 0), ⟨fun j hj => ?_, ?_⟩, ?_⟩
    · by_cases e : j = i
      · subst e; omega
      · have := hI j (by omega); omega
    · by_cases e : l.getD i 0 ≤ s
      · exact ⟨i, hi, by omega⟩
      · exact ⟨q, hq, by omega⟩
    · conv => lhs; unfold f40_5 f40_5b
      simp only [show (i : Int) < (l.length : Int) by omega, decide_true, cond_true, ix_getD hi, Option.bind_some]
      rw [W_nat (by omega)]) (by
    intro n s hI
    refine ⟨s, ?_, hI⟩
    (conv => lhs; unfold f40_5 f40_5b); simp [f40_c8]) N (l.getD 0 0) 1 ⟨fun j hj => by rw [show j = 0 by omega]; exact Int.le_refl _, 0, by omega, rfl⟩ (by omega) (by omega)
  exact this
def mot (n : Nat) (T : List Nat) : List Int := (List.range n).map fun c => if c ∈ T then (1 : Int) else 0
theorem mot_len {n : Nat} {T : List Nat} : (mot n T).length = n := by simp [mot]
theorem mot_get {n c : Nat} {T : List Nat} (h : c < n) : (mot n T)[c]? = some (if c ∈ T then (1 : Int) else 0) := by
  unfold mot; rw [List.getElem?_map, List.getElem?_range h]; rfl
theorem mot_getD {n c : Nat} {T : List Nat} (h : c < n) : (mot n T).getD c 0 = if c ∈ T then (1 : Int) else 0 := by
  rw [List.getD_eq_getElem?_getD, mot_get h]; rfl
theorem mot_set {n x : Nat} {T : List Nat} (h : x < n) : (mot n T).set x 1 = mot n (T ++ [x]) := by
  refine List.ext_getElem? fun i => ?_
  by_cases hi : i < n
  · rw [List.getElem?_set, mot_get hi, mot_len]
    by_cases e : x = i
    · subst e; rw [if_pos rfl, if_pos h, mot_get hi, if_pos (by simp)]
    · rw [if_neg e]
      simp only [mot_get hi]
      congr 1
      refine iffD ⟨fun hh => by simp [hh], fun hh => ?_⟩
      simp at hh
      rcases hh with hh | hh
      · exact hh
      · exact absurd hh.symm e
  · rw [List.getElem?_eq_none (by simp [mot_len]; omega), List.getElem?_eq_none (by simp [mot_len]; omega)]
theorem mot_nil {n : Nat} : mot n [] = List.replicate n 0 := by
  refine List.ext_getElem? fun i => ?_
  by_cases hi : i < n
  · rw [mot_get hi, List.getElem?_replicate, if_pos hi]; simp
  · rw [List.getElem?_eq_none (by simp [mot_len]; omega), List.getElem?_eq_none (by simp; omega)]
theorem f16_eq {r : Rack} {p : Palette} {n : Nat} (h : RackP r p n) (hp : Pal p) {N s : Nat} (hs : EverIs p s) (hN : 2000 ≤ N) : f16 N r ⟨mot n (lsN s), mot n (lsN s)⟩ = some (if (lsN s).length = n then 20 else 0) := by
  have hn := h.hn; have hf := h.few
  have hsn : ∀ c, s.testBit c = true → c < n := fun c hc => by have := hs.set.in' c hc; rw [h.col] at this; omega
  have hT : ∀ c, c < n → (c ∈ lsN s ↔ s.testBit c = true) := fun c hc => by rw [mem_lsN]; exact ⟨fun h => h.2, fun h => ⟨by omega, h⟩⟩
  have hflat : [mot n (lsN s), mot n (lsN s)].flatten = mot n (lsN s) ++ mot n (lsN s) := by simp
  generalize hM : mot n (lsN s) = M at *
  have hMl : M.length = n := by rw [← hM, mot_len]
  have hMg : ∀ c, c < n → M.getD c 0 = if s.testBit c = true then 1 else 0 := fun c hc => by rw [← hM, mot_getD hc]; exact iffD (hT c hc)
  have hLl : (M ++ M).length = n + n := by simp [hMl]
  have hLg : ∀ k, k < n + n → (M ++ M).getD k 0 = if s.testBit (colOf n k) = true then 1 else 0 := by
    intro k hk
    unfold colOf
    by_cases hh : k < n
    · rw [if_pos hh, getD_app_l (by omega), hMg k hh]
    · rw [if_neg hh, getD_app_r (by omega), hMl, hMg _ (by omega)]
  unfold f16
  rw [f32_ok h.toRackOk (by omega), f35_eq ⟨by simp, fun x hx => by simp at hx; subst hx; omega⟩ (by omega), hflat]
  simp only [Option.bind_some, joinK, not_true_eq_false, decide_false, cond_false, h.rows, h.cols, hMl]
  rw [loop_ex0 (F := f16_i701_i702000102_2 r ⟨M, M⟩ N (M ++ M) (f16_c11 r ⟨M, M⟩ N) (f16_i701_i702000102_c7 r ⟨M, M⟩ N (M ++ M) (f16_c11 r ⟨M, M⟩ N))) (e := some 4) (k0 := f16_i701_i702000102_c7 r ⟨M, M⟩ N (M ++ M) (f16_c11 r ⟨M, M⟩ N)) (p := fun _ => False) (M ++ M).length]
  · simp only [and_false, exists_false, if_false]
    unfold f16_i701_i702000102_c7
    obtain ⟨x, x1, x2, i, x3, x4⟩ := f39_eq2 (N := N) (l := M ++ M) (by omega) (by omega) hN
    obtain ⟨y, y1, y2, j, y3, y4⟩ := f40_eq2 (N := N) (l := M ++ M) (by omega) (by omega) hN
    rw [x1]; simp only [Option.bind_some]
    rw [y1]; simp only [Option.bind_some]
    have h00 := hLg 0 (by omega)
    rw [show colOf n 0 = 0 from if_pos (by omega), if_pos hs.set.lo] at h00
    have x20 := x2 0 (by omega)
    by_cases hall : (lsN s).length = n
    · have hb := (lsN_all (by omega) hsn).1 hall
      rw [if_pos hall]
      have ex : x = 1 := by rw [← x4, hLg i (by omega), if_pos (hb _ (by unfold colOf; split <;> omega))]
      have ey : y = 1 := by rw [← y4, hLg j (by omega), if_pos (hb _ (by unfold colOf; split <;> omega))]
      rw [ex, ey]; rfl
    · rw [if_neg hall]
      have : ¬ ∀ c, c < n → s.testBit c = true := fun hh => hall ((lsN_all (by omega) hsn).2 hh)
      obtain ⟨c, hc⟩ := Classical.not_forall.1 this
      obtain ⟨hc, hc2⟩ := Classical.not_imp.1 hc
      have hc0 := hLg c (by omega)
      rw [show colOf n c = c from if_pos hc, if_neg hc2] at hc0
      have := y2 c (by omega)
      simp only [show ¬ x = y by omega, decide_false, cond_false]
      unfold f16_c11
      simp only [joinK]
      rw [loop_ex0 (F := f16_12 r ⟨M, M⟩ f16_c18) (e := some 13) (k0 := f16_c18) (p := fun _ => False) r.Braces.length]
      · simp; rfl
      · intro m v hv
        rw [if_neg (by simp)]
        conv => lhs; unfold f16_12 f16_12b
        have hb := h.mem r.Braces[v] |>.1 (List.getElem_mem hv)
        simp only [show (v : Int) < (r.Braces.length : Int) by omega, decide_true, cond_true, ix_get hv, Option.bind_some]
        rw [W_nat (by omega)]
        rcases hb with ⟨c, hc, e⟩ | ⟨d, c, hd, hc, e⟩
        · rw [e]
          simp only [ix_getD (l := M) (i := c) (by omega), Option.bind_some, show ¬ (0 : Int) = 2 by omega, show ¬ (0 : Int) = 1 by omega, not_false_eq_true, decide_true, cond_true, Int.lt_irrefl, decide_false, cond_false]
        · rw [e]
          have hi := (hp.ik hd (c := c) (by rw [h.col]; omega)).2
          rw [h.col] at hi
          have hcl := hs.cl c d
          have g1 := hMg c hc
          have g2 := hMg (ik p d c) (by omega)
          simp only [ix_getD (l := M) (i := c) (by omega), ix_getD (l := M) (i := ik p d c) (by omega), Option.bind_some, show ¬ (1 : Int) = 2 by omega, not_true_eq_false, not_false_eq_true, decide_true, cond_true, decide_false, cond_false]
          rw [show decide (M.getD (ik p d c) 0 < M.getD c 0) = false by
            rw [g1, g2]
            cases hb1 : s.testBit c
            · simp; split <;> omega
            · simp [hcl hb1 hd]]
          rfl
      · intro m; (conv => lhs; unfold f16_12 f16_12b); simp
      · omega
  · intro m k hk
    rw [if_neg (by simp)]
    conv => lhs; unfold f16_i701_i702000102_2 f16_i701_i702000102_2b
    have hg := hLg k (by omega)
    have hr : -1000000 ≤ (M ++ M).getD k 0 ∧ (M ++ M).getD k 0 ≤ 1000000 := by rw [hg]; split <;> omega
    unfold f37
    simp only [show (k : Int) < ((M ++ M).length : Int) by omega, decide_true, cond_true, ix_getD hk, Option.bind_some, f38_eq, hr, and_self, Bool.not_true, cond_false]
    rw [W_nat (by omega)]
  · intro m; (conv => lhs; unfold f16_i701_i702000102_2 f16_i701_i702000102_2b); simp
  · omega
end Go.Vc
namespace Go.Vc
open Go.Proofs
set_option linter.unusedVariables false
set_option linter.unnecessarySimpa false
set_option linter.unusedSimpArgs false
set_option linter.unusedSimpArgs false
set_option maxRecDepth 100000
def get6 (a : A6u8N) (c : Nat) : Int := [a.e0, a.e1, a.e2, a.e3, a.e4, a.e5].getD c 0
def By6 (a : A6u8N) : Prop := ∀ c, 0 ≤ get6 a c ∧ get6 a c ≤ 255
def num (n : Nat) (a : A6u8N) (c : Nat) : Nat := (get6 a c).toNat % n
def lk (n : Nat) (a : A6u8N) (k : Nat) : List Int := (List.range k).map fun c => ((num n a c : Nat) : Int)
def cab (n : Nat) (a : A6u8N) (k : Nat) : List Brace := (List.range k).map fun (c : Nat) => Brace.mk (c : Int) ((num n a c : Nat) : Int) 1
def rods (k : Nat) : List Brace := (List.range k).map fun (c : Nat) => Brace.mk (c : Int) (c : Int) 0
def inkR (n : Nat) (l : List A6u8N) : List (List Int) := l.map fun a => lk n a n
def braR (n : Nat) (l : List A6u8N) : List Brace := rods n ++ l.flatMap fun a => cab n a n
theorem lk_succ {n k : Nat} {a : A6u8N} : lk n a (k + 1) = lk n a k ++ [((num n a k : Nat) : Int)] := by simp [lk, List.range_succ]
theorem cab_succ {n k : Nat} {a : A6u8N} : cab n a (k + 1) = cab n a k ++ [Brace.mk (k : Int) ((num n a k : Nat) : Int) 1] := by simp [cab, List.range_succ]
theorem rods_succ {k : Nat} : rods (k + 1) = rods k ++ [Brace.mk (k : Int) (k : Int) 0] := by simp [rods, List.range_succ]
theorem lk_len {n k : Nat} {a : A6u8N} : (lk n a k).length = k := by simp [lk]
theorem cab_len {n k : Nat} {a : A6u8N} : (cab n a k).length = k := by simp [cab]
theorem rods_len {k : Nat} : (rods k).length = k := by simp [rods]
theorem braR_len {n : Nat} : ∀ {l : List A6u8N}, (braR n l).length = n + l.length * n
  | [] => by simp [braR, rods_len]
  | a :: l => by
    have := braR_len (n := n) (l := l)
    simp only [braR, List.length_append, rods_len, List.flatMap_cons, cab_len, List.length_cons, Nat.succ_mul] at this ⊢
    omega
theorem num_lt {n c : Nat} {a : A6u8N} (h : 0 < n) : num n a c < n := Nat.mod_lt _ h
def palR (n : Nat) (l : List A6u8N) : Palette := Palette.mk (n : Int) (inkR n l)
def rackR (n : Nat) (l : List A6u8N) : Rack := Rack.mk (n : Int) (n : Int) (braR n l)
theorem palR_row {n d : Nat} {l : List A6u8N} (hd : d < l.length) : row (inkR n l) d = lk n l[d] n := by simp [row, inkR, hd]
theorem palR_en {n d c : Nat} {l : List A6u8N} (hd : d < l.length) (hc : c < n) : en (inkR n l) d c = ((num n l[d] c : Nat) : Int) := by
  unfold en; rw [palR_row hd]; simp [lk, hc]
theorem palR_ok {n : Nat} {l : List A6u8N} (hn : 2 ≤ n ∧ n ≤ 6) (h1 : 1 ≤ l.length) (h3 : l.length ≤ 3) : Pal (palR n l) := by
  refine ⟨by simp [palR]; omega, by simp [palR]; omega, by simp [palR, inkR]; omega, by simp [palR, inkR]; omega, fun d hd => ?_, fun d c hd hc => ?_⟩
  · simp only [palR, inkR, List.length_map] at hd ⊢
    have := palR_row (n := n) hd
    unfold inkR at this
    rw [this, lk_len]
  · have hd' : d < l.length := by simpa [palR, inkR] using hd
    have hc' : c < n := by simp only [palR] at hc; omega
    simp only [palR]
    rw [palR_en hd' hc']
    have := num_lt (n := n) (c := c) (a := l[d]) (by omega)
    omega
theorem palR_ik {n d c : Nat} {l : List A6u8N} (hd : d < l.length) (hc : c < n) : ik (palR n l) d c = num n l[d] c := by
  unfold ik palR; rw [palR_en hd hc]; simp
theorem rackR_ok {n : Nat} {l : List A6u8N} (hn : 2 ≤ n ∧ n ≤ 6) (h3 : l.length ≤ 3) : RackP (rackR n l) (palR n l) n := by
  have mem : ∀ b, b ∈ braR n l ↔ (∃ c : Nat, c < n ∧ b = ⟨(c : Int), (c : Int), 0⟩) ∨ ∃ d c : Nat, d < (palR n l).Inks.length ∧ c < n ∧ b = ⟨(c : Int), ((ik (palR n l) d c : Nat) : Int), 1⟩ := by
    intro b
    simp only [braR, List.mem_append, rods, List.mem_map, List.mem_range, List.mem_flatMap, cab]
    constructor
    · rintro (⟨c, hc, rfl⟩ | ⟨a, ha, c, hc, rfl⟩)
      · exact .inl ⟨c, hc, rfl⟩
      · obtain ⟨d, hd, rfl⟩ := List.mem_iff_getElem.1 ha
        exact .inr ⟨d, c, by simpa [palR, inkR] using hd, hc, by rw [palR_ik hd hc]⟩
    · rintro (⟨c, hc, rfl⟩ | ⟨d, c, hd, hc, rfl⟩)
      · exact .inl ⟨c, hc, rfl⟩
      · have hd' : d < l.length := by simpa [palR, inkR] using hd
        exact .inr ⟨l[d], List.getElem_mem hd', c, hc, by rw [palR_ik hd' hc]⟩
  refine ⟨⟨hn, rfl, rfl, ?_, fun b hb => ?_⟩, rfl, mem⟩
  · show (braR n l).length ≤ 24
    rw [braR_len]
    have : l.length * n ≤ 3 * 6 := Nat.mul_le_mul h3 hn.2
    omega
  · rcases (mem b).1 hb with ⟨c, hc, rfl⟩ | ⟨d, c, hd, hc, rfl⟩
    · exact ⟨c, c, 0, rfl, hc, hc, by omega⟩
    · have hd' : d < l.length := by simpa [palR, inkR] using hd
      refine ⟨c, _, 1, rfl, hc, ?_, by omega⟩
      rw [palR_ik hd' hc]; exact num_lt (by omega)
def tu (n f c : Nat) : Nat := (c + n - f) % n
theorem tu_lt {n f c : Nat} (h : 0 < n) : tu n f c < n := Nat.mod_lt _ h
theorem tu_self {n f : Nat} (h : 0 < n) (hf : f < n) : tu n f f = 0 := by
  unfold tu; rw [show f + n - f = n by omega]; exact Nat.mod_self n
theorem tu_eq {n f c : Nat} (hf : f < n) (hc : c < n) : tu n f c = if f ≤ c then c - f else c + n - f := by
  unfold tu
  by_cases h : f ≤ c
  · rw [if_pos h, show c + n - f = (c - f) + n by omega, Nat.add_mod_right]; exact Nat.mod_eq_of_lt (by omega)
  · rw [if_neg h]; exact Nat.mod_eq_of_lt (by omega)
theorem tu_inj {n f a b : Nat} (hf : f < n) (ha : a < n) (hb : b < n) (e : tu n f a = tu n f b) : a = b := by
  rw [tu_eq hf ha, tu_eq hf hb] at e
  split at e <;> split at e <;> omega
theorem tu_sur {n f y : Nat} (hf : f < n) (hy : y < n) : ∃ c, c < n ∧ tu n f c = y := by
  by_cases h : y + f < n
  · exact ⟨y + f, h, by rw [tu_eq hf h, if_pos (by omega)]; omega⟩
  · exact ⟨y + f - n, by omega, by rw [tu_eq hf (by omega), if_neg (by omega)]; omega⟩
theorem tu_W {n f c : Nat} (hn : n ≤ 6) (hf : f < n) (hc : c < n) : Int.tmod (W ((W ((c : Int) - (f : Int))) + (n : Int))) (n : Int) = ((tu n f c : Nat) : Int) := by
  rw [show W ((c : Int) - (f : Int)) = (c : Int) - (f : Int) from W_of (by omega) (by omega), show W ((c : Int) - (f : Int) + (n : Int)) = ((c + n - f : Nat) : Int) by rw [W_of (by omega) (by omega)]; omega, tmod_nat]; rfl
structure Renum (p : Palette) (n f k : Nat) (Q : List (List Int)) : Prop where
  len : Q.length = k
  at' : ∀ d, d < k → (row Q d).length = n ∧ ∀ c, c < n → en Q d (tu n f c) = ((tu n f (ik p d c) : Nat) : Int)
theorem Renum.pal {p : Palette} {n f : Nat} {Q : List (List Int)} (hp : Pal p) (hn : p.Colours = (n : Int)) (hf : f < n) (h : Renum p n f p.Inks.length Q) : Pal (Palette.mk (n : Int) Q) := by
  have h2 := hp.c2; have h7 := hp.c7; have i1 := hp.i1; have i6 := hp.i6
  have hl := h.len
  refine ⟨by dsimp only; omega, by dsimp only; omega, by dsimp only; omega, by dsimp only; omega, fun d hd => ?_, fun d c hd hc => ?_⟩
  · dsimp only at hd ⊢
    rw [(h.at' d (by omega)).1]
  · dsimp only at hd hc ⊢
    obtain ⟨c', hc', rfl⟩ := tu_sur hf (show c < n by omega)
    rw [(h.at' d (by omega)).2 c' hc']
    have := tu_lt (n := n) (f := f) (c := ik p d c') (by omega)
    omega
theorem Renum.rch {p : Palette} {n f : Nat} {Q : List (List Int)} (hp : Pal p) (hn : p.Colours = (n : Int)) (hf : f < n) (h : Renum p n f p.Inks.length Q) {c : Nat} (hc : c < n) : Rch (Palette.mk (n : Int) Q) 0 (tu n f c) ↔ Rch p f c := by
  have hl := h.len
  have hik : ∀ d c, d < p.Inks.length → c < n → ik (Palette.mk (n : Int) Q) d (tu n f c) = tu n f (ik p d c) := fun d c hd hc => by
    have := (h.at' d hd).2 c hc
    show (en Q d (tu n f c)).toNat = _
    rw [this]; simp
  have hlt : ∀ d c, d < p.Inks.length → c < n → ik p d c < n := fun d c hd hc => by
    have := (hp.ik hd (c := c) (by omega)).2
    omega
  constructor
  · intro hr S hS h0
    obtain ⟨c', h1, h2, h3⟩ := hr (fun y => ∃ c', c' < n ∧ tu n f c' = y ∧ S c') (fun y d ⟨c', h1, h2, h3⟩ hd => by
      subst h2
      have hd : d < p.Inks.length := by dsimp only at hd; omega
      exact ⟨ik p d c', hlt d c' hd h1, (hik d c' hd h1).symm, hS c' d h3 hd⟩) ⟨f, hf, tu_self (by omega) hf, h0⟩
    have := tu_inj hf h1 hc h2
    subst this; exact h3
  · intro hr S hS h0
    have := hr (fun c => c < n ∧ S (tu n f c)) (fun c d ⟨h1, h2⟩ hd => ⟨hlt d c hd h1, by rw [← hik d c hd h1]; exact hS _ d h2 (by dsimp only; omega)⟩) ⟨hf, by rw [tu_self (by omega) hf]; exact h0⟩
    exact this.2
section
variable {n N f : Nat} {a0 : Int} {p : Palette} {B : List Brace} {vb : Bool}
theorem f4_row (hw : W ((2 : Int) + Int.tmod a0 5) = (n : Int)) (hn : 2 ≤ n ∧ n ≤ 6) (hp : Pal p) (hc : p.Colours = (n : Int)) (hf : f < n) {d : Nat} (hd : d < p.Inks.length) {Q : List (List Int)} {v : Int} {k5 : List Int → Option Bool} (hN : 20 ≤ N) :
    ∃ o : List Int, (o.length = n ∧ ∀ c, c < n → o.getD (tu n f c) 0 = ((tu n f (ik p d c) : Nat) : Int)) ∧ f4_31 a0 p.Inks B vb (f : Int) v Q (row p.Inks d) k5 N (List.replicate n 0) (0 : Int) = k5 o := by
  have hlen := hp.len d hd
  rw [hc] at hlen
  have walk : ∀ m i (o : List Int), i ≤ n → n - i < m → o.length = n → (∀ c, c < i → o.getD (tu n f c) 0 = ((tu n f (ik p d c) : Nat) : Int)) →
      ∃ o' : List Int, (o'.length = n ∧ ∀ c, c < n → o'.getD (tu n f c) 0 = ((tu n f (ik p d c) : Nat) : Int)) ∧ f4_31 a0 p.Inks B vb (f : Int) v Q (row p.Inks d) k5 m o (i : Int) = k5 o' := by
    intro m
    induction m with
    | zero => intro i o _ h; omega
    | succ m ih =>
      intro i o hi hm ho hI
      conv => enter [1, o', 2, 1]; unfold f4_31 f4_31b
      rw [hw]
      by_cases e : i = n
      · subst e
        exact ⟨o, ⟨ho, hI⟩, by simp [show ((row p.Inks d).length : Int) = (i : Int) from hlen]⟩
      · have hi : i < n := by omega
        obtain ⟨e1, e2⟩ := hp.ik hd (c := i) (by omega)
        have ht := tu_lt (n := n) (f := f) (c := i) (by omega)
        have ht2 := tu_lt (n := n) (f := f) (c := ik p d i) (by omega)
        have hx : ix (row p.Inks d) (i : Int) = some ((ik p d i : Nat) : Int) := by rw [e1]; exact ix_en (by omega)
        simp only [show (i : Int) < ((row p.Inks d).length : Int) by omega, decide_true, cond_true, hx, Option.bind_some, chk_pos (show 0 < n by omega), tu_W hn.2 hf hi, tu_W hn.2 hf (show ik p d i < n by omega), ix_getD (show tu n f i < o.length by omega), setx_nat (show tu n f i < o.length by omega)]
        rw [W_nat (by omega)]
        refine ih (i + 1) _ hi (by omega) (by simp [ho]) fun c hc' => ?_
        rw [getD_set (by omega)]
        by_cases hci : c = i
        · subst hci; rw [if_pos rfl]
        · rw [if_neg (fun hh => hci (tu_inj hf hi (by omega) hh).symm)]
          exact hI c (by omega)
  have := walk N 0 (List.replicate n 0) (by omega) (by omega) (by simp) (fun c hc => by omega)
  exact this
theorem f4_ren (hw : W ((2 : Int) + Int.tmod a0 5) = (n : Int)) (hn : 2 ≤ n ∧ n ≤ 6) (hp : Pal p) (hc : p.Colours = (n : Int)) (hf : f < n) {k3 : List (List Int) → Option Bool} (hN : 20 ≤ N) :
    ∀ m i Q, i ≤ p.Inks.length → p.Inks.length - i < m → Renum p n f i Q → ∃ Q', Renum p n f p.Inks.length Q' ∧ f4_27 a0 N p.Inks B vb (f : Int) k3 m (i : Int) Q = k3 Q' := by
  have i6 := hp.i6
  intro m
  induction m with
  | zero => intro i Q _ h; omega
  | succ m ih =>
    intro i Q hi hm hQ
    conv => enter [1, Q', 2, 1]; unfold f4_27 f4_27b
    rw [hw]
    by_cases e : i = p.Inks.length
    · subst e; exact ⟨Q, hQ, by simp⟩
    · have hi : i < p.Inks.length := by omega
      have hmk : mkS 8 (0 : Int) (n : Int) (n : Int) = some (List.replicate n 0) := by
        unfold mkS
        rw [if_pos ⟨by omega, by omega, by omega⟩, Int.toNat_natCast]
      simp only [show (i : Int) < (p.Inks.length : Int) by omega, decide_true, cond_true, ix_row hi, Option.bind_some, hmk, joinK]
      obtain ⟨o, ⟨o1, o2⟩, o3⟩ := f4_row (B := B) (vb := vb) (f := f) hw hn hp hc hf hi (Q := Q) (v := (i : Int)) (k5 := f4_c35 a0 p.Inks B vb (f : Int) (i : Int) Q (f4_c36 a0 p.Inks B vb (f : Int) (i : Int) (f4_27 a0 N p.Inks B vb (f : Int) k3 m))) hN
      rw [o3]
      unfold f4_c35 f4_c36
      have hql := hQ.len
      rw [app_ok (by simp; omega) (by simp; omega)]
      simp only [Option.bind_some]
      rw [W_nat (by omega)]
      refine ih (i + 1) (Q ++ [o]) hi (by omega) ⟨by simp [hql], fun d hd => ?_⟩
      by_cases hdi : d = i
      · subst hdi
        have er : row (Q ++ [o]) d = o := by unfold row; rw [getD_app_r (by omega), hql]; simp
        unfold en
        rw [er]; exact ⟨o1, o2⟩
      · have er : row (Q ++ [o]) d = row Q d := by unfold row; rw [getD_app_l (by omega)]
        unfold en
        rw [er]; exact hQ.at' d (by omega)
open Classical in
theorem f4_all (hw : W ((2 : Int) + Int.tmod a0 5) = (n : Int)) (hn : 2 ≤ n ∧ n ≤ 6) (hp : Pal p) (hc : p.Colours = (n : Int)) {k1 : Bool → Option Bool} (hN : 2000 ≤ N) :
    f4_22 a0 N p.Inks B k1 N true (0 : Int) = k1 (decide (∀ a, a < n → ∀ c, c < n → Rch p a c)) := by
  obtain ⟨e1, e2⟩ := loop_inv0 (F := f4_22 a0 N p.Inks B k1) (k := k1) (fun v i => v && decide (∀ c, c < n → Rch p i c)) (fun i v => v = true ↔ ∀ a, a < i → ∀ c, c < n → Rch p a c) n (by
    intro m v i hi h
    conv => lhs; unfold f4_22 f4_22b
    rw [hw]
    simp only [show (i : Int) < (n : Int) by omega, decide_true, cond_true, joinK]
    obtain ⟨Q, hQ, q1⟩ := f4_ren (B := B) (vb := v) (f := i) hw hn hp hc hi (k3 := f4_c37 a0 N p.Inks B v (i : Int) (f4_c41 a0 p.Inks B (i : Int) (f4_22 a0 N p.Inks B k1 m))) (show 20 ≤ N by omega) N 0 [] (by omega) (by have := hp.i6; omega) ⟨rfl, fun d hd => by omega⟩
    rw [show ((0 : Nat) : Int) = 0 from rfl] at q1
    rw [q1]
    unfold f4_c37
    rw [hw]
    obtain ⟨s, hs, hf10⟩ := f10_eq (hQ.pal hp hc hi) (N := N) hN
    rw [hf10]
    simp only [Option.bind_some, not_true_eq_false, decide_false, cond_false]
    have hsn : ∀ c, s.testBit c = true → c < n := fun c hc => by have := hs.set.in' c hc; dsimp only at this; omega
    have hl : decide (((lsI s).length : Int) = (n : Int)) = decide (∀ c, c < n → Rch p i c) := by
      rw [decide_eq_decide, show ((lsI s).length : Int) = ((lsN s).length : Int) by simp [lsI], show ((lsN s).length : Int) = (n : Int) ↔ (lsN s).length = n from by omega, lsN_all (by omega) hsn]
      constructor
      · intro hh c hc'
        exact (hQ.rch hp hc hi hc').1 (hs.iff.1 (hh _ (tu_lt (by omega))))
      · intro hh y hy
        obtain ⟨c, hc', rfl⟩ := tu_sur hi hy
        exact hs.iff.2 ((hQ.rch hp hc hi hc').2 (hh c hc'))
    rw [hl]
    unfold f4_c41
    rw [W_nat (by omega)]
    cases v <;> simp) (by
    intro v i hi h
    rw [Bool.and_eq_true, h, decide_eq_true_eq]
    constructor
    · rintro ⟨h1, h2⟩ a ha
      by_cases e : a = i
      · subst e; exact h2
      · exact h1 a (by omega)
    · intro hh; exact ⟨fun a ha => hh a (by omega), hh i (by omega)⟩) (by intro m v; (conv => lhs; unfold f4_22 f4_22b); rw [hw]; simp) (n := N) (s := true) (by omega) (by simp)
  rw [e1]
  congr 1
  generalize (List.range n).foldl (fun v i => v && decide (∀ c, c < n → Rch p i c)) true = b at e2
  cases b
  · symm; rw [decide_eq_false_iff_not]; intro hh; exact absurd (e2.2 hh) (by simp)
  · symm; rw [decide_eq_true_eq]; exact e2.1 rfl
theorem f4_mot {s : Nat} {x2 : Bool × Int} {k0 : List Int → List Int → Option Bool} (hw : W ((2 : Int) + Int.tmod a0 5) = (n : Int)) (hsn : ∀ c, s.testBit c = true → c < n) :
    ∀ m i, i ≤ (lsN s).length → (lsN s).length - i < m → f4_49 a0 B x2 (lsI s, 0) k0 m (i : Int) (mot n ((lsN s).take i)) (mot n ((lsN s).take i)) = k0 (mot n (lsN s)) (mot n (lsN s)) := by
  have hl7 := lsN_len (m := s)
  have hll : ((lsI s).length : Int) = ((lsN s).length : Int) := by simp [lsI]
  intro m
  induction m with
  | zero => intro i _ h; omega
  | succ m ih =>
    intro i hi hm
    conv => lhs; unfold f4_49 f4_49b
    rw [hw, hll]
    by_cases e : i = (lsN s).length
    · rw [e]; simp
    · have hi : i < (lsN s).length := by omega
      have hx : (lsN s).getD i 0 < n := hsn _ (mem_lsN.1 (show (lsN s).getD i 0 ∈ lsN s by simp [hi])).2
      have ht : (lsN s).take (i + 1) = (lsN s).take i ++ [(lsN s).getD i 0] := by
        rw [List.take_add_one, List.getElem?_eq_getElem hi]; simp [hi]
      have hM := mot_len (n := n) (T := (lsN s).take i)
      simp only [show (i : Int) < ((lsN s).length : Int) by omega, decide_true, cond_true, ix_lsI hi, Option.bind_some, show ¬ (((lsN s).getD i 0 : Nat) : Int) < 0 by omega, decide_false, cond_false, show ¬ (n : Int) ≤ (((lsN s).getD i 0 : Nat) : Int) by omega, ix_getD (show (lsN s).getD i 0 < (mot n ((lsN s).take i)).length by omega), setx_nat (show (lsN s).getD i 0 < (mot n ((lsN s).take i)).length by omega)]
      rw [W_nat (by omega), mot_set hx, ← ht]
      exact ih (i + 1) hi (by omega)
open Classical in
theorem f4_rest (hw : W ((2 : Int) + Int.tmod a0 5) = (n : Int)) (hn : 2 ≤ n ∧ n ≤ 6) (hp : Pal p) (hr : RackP (Rack.mk (n : Int) (n : Int) B) p n) (hpi : Palette.mk (n : Int) p.Inks = p) (hi1 : p.Inks.length ≠ 0) : f4_c18 a0 2200 p.Inks B = some true := by
  have hc := hr.col
  unfold f4_c18
  simp only [show ¬ (p.Inks.length : Int) = 0 by omega, decide_false, cond_false, joinK]
  rw [f4_all hw hn hp hc (by omega)]
  unfold f4_c43
  rw [hw, hpi, f15_eq hr hp (by omega)]
  obtain ⟨s, hs, hf10⟩ := f10_eq hp (N := 2200) (by omega)
  rw [hf10]
  have hmk : mkS 8 (0 : Int) (n : Int) (n : Int) = some (mot n []) := by
    unfold mkS
    rw [if_pos ⟨by omega, by omega, by omega⟩, Int.toNat_natCast, mot_nil]
  simp only [Option.bind_some, not_true_eq_false, decide_false, cond_false, beq_self_eq_true, Bool.not_true, hmk, joinK]
  have hsn : ∀ c, s.testBit c = true → c < n := fun c hh => by have := hs.set.in' c hh; rw [hc] at this; omega
  have hm := f4_mot (a0 := a0) (B := B) (n := n) (s := s) (x2 := (decide (∀ a, a < n → ∀ c, c < n → Rch p a c), 0)) (k0 := f4_c55 a0 2200 B (decide (∀ a, a < n → ∀ c, c < n → Rch p a c), 0) (lsI s, 0)) hw hsn 2200 0 (by omega) (by have := lsN_len (m := s); omega)
  rw [show ((0 : Nat) : Int) = 0 from rfl, List.take_zero] at hm
  rw [hm]
  unfold f4_c55
  rw [hw, f16_eq hr hp hs (by omega)]
  simp only [show ((lsI s).length : Int) = ((lsN s).length : Int) by simp [lsI]]
  by_cases hall : (lsN s).length = n
  · rw [if_pos hall]
    simp only [show ((lsN s).length : Int) = (n : Int) by omega, decide_true, cond_true, Option.bind_some, f13_any 2000]
  · rw [if_neg hall]
    have : decide (∀ a, a < n → ∀ c, c < n → Rch p a c) = false := by
      rw [decide_eq_false_iff_not]
      intro hh
      exact hall ((lsN_all (by omega) hsn).2 fun c hc' => hs.iff.2 (hh 0 (by omega) c hc'))
    simp only [show ¬ ((lsN s).length : Int) = (n : Int) by omega, decide_false, cond_false, Option.bind_some, decide_true, cond_true, this, Bool.not_false, f13_any 2000]
end
theorem f4_true {a0 : Int} {a1 : List A6u8N} (h0 : 0 ≤ a0 ∧ a0 ≤ 255) (h1 : ∀ a, a ∈ a1 → By6 a) : f4 2200 a0 a1 = some true := by
  obtain ⟨b, rfl⟩ : ∃ b : Nat, a0 = (b : Int) := ⟨a0.toNat, by omega⟩
  have hlt := Nat.mod_lt b (show 0 < 5 by omega)
  have hw : W ((2 : Int) + Int.tmod (b : Int) 5) = ((2 + b % 5 : Nat) : Int) := by
    have := tmod_nat b 5
    rw [show ((5 : Nat) : Int) = 5 from rfl] at this
    rw [this]; exact W_of (by omega) (by omega)
  have hn : 2 ≤ 2 + b % 5 ∧ 2 + b % 5 ≤ 6 := by omega
  generalize 2 + b % 5 = n at *
  unfold f4
  simp only [joinK]
  obtain ⟨e1, e2⟩ := loop_inv0 (F := fun m s i => f4_5 (b : Int) a1 (f4_c8 (b : Int) a1 2200) m i s) (k := f4_c8 (b : Int) a1 2200) (fun s i => s ++ [Brace.mk (i : Int) (i : Int) 0]) (fun i s => s = rods i) n (by
    intro m s i hi h
    subst h
    conv => lhs; unfold f4_5 f4_5b
    rw [hw]
    simp only [show (i : Int) < (n : Int) by omega, decide_true, cond_true]
    rw [app_ok (by simp [rods_len]; omega) (by simp [rods_len]; omega)]
    simp only [Option.bind_some]
    rw [W_nat (by omega)]) (by intro s i hi h; rw [h, rods_succ]) (by intro m s; (conv => lhs; unfold f4_5 f4_5b); rw [hw]; simp) (n := 2200) (s := []) (by omega) rfl
  rw [e1, e2]
  unfold f4_c8
  simp only [joinK]
  have hin : ∀ (i : Nat) (a : A6u8N) (B : List Brace) (k8 : List Int → List Brace → Option Bool), a1[i]? = some a → B.length ≤ 100 → ∀ m c, c ≤ n → n - c < m → f4_13 (b : Int) a1 (i : Int) (inkR n (a1.take i)) k8 m (lk n a c) (c : Int) (B ++ cab n a c) = k8 (lk n a n) (B ++ cab n a n) := by
    intro i a B k8 ha hB m
    have hb6 := h1 a (List.mem_of_getElem? ha)
    induction m with
    | zero => intro c _ h; omega
    | succ m ih =>
      intro c hc hm
      conv => lhs; unfold f4_13 f4_13b
      rw [hw]
      by_cases e : c = n
      · subst e; simp
      · have hc : c < n := by omega
        have hg : ixN [a.e0, a.e1, a.e2, a.e3, a.e4, a.e5] c = some (get6 a c) := by
          have : c < 6 := by omega
          unfold get6 ixN
          rcases (show c = 0 ∨ c = 1 ∨ c = 2 ∨ c = 3 ∨ c = 4 ∨ c = 5 by omega) with rfl | rfl | rfl | rfl | rfl | rfl <;> rfl
        have hgn : get6 a c = (((get6 a c).toNat : Nat) : Int) := by have := hb6 c; omega
        have hix : ix (lk n a c ++ [((num n a c : Nat) : Int)]) (c : Int) = some ((num n a c : Nat) : Int) := by
          have hl := lk_len (n := n) (a := a) (k := c)
          rw [ix_nat, List.getElem?_append_right (by omega), hl]; simp
        simp only [show (c : Int) < (n : Int) by omega, decide_true, cond_true, ix_nat, ha, Option.bind_some, chkI_ok (n := 6) (show 0 ≤ (c : Int) by omega) (by omega), Int.toNat_natCast, hg, chk_pos (show 0 < n by omega)]
        rw [hgn, tmod_nat, show (get6 a c).toNat % n = num n a c from rfl, app_ok (by simp [lk_len]; omega) (by simp [lk_len]; omega)]
        simp only [Option.bind_some]
        rw [← ix_nat, hix]
        simp only [Option.bind_some]
        rw [app_ok (by simp [cab_len]; omega) (by simp [cab_len]; omega)]
        simp only [Option.bind_some]
        rw [W_nat (by omega), ← lk_succ, List.append_assoc, ← cab_succ]
        exact ih (c + 1) hc (by omega)
  have key : ∀ m i, i ≤ 3 → i ≤ a1.length → 3 - i < m → ∃ j, j ≤ 3 ∧ j ≤ a1.length ∧ f4_9 (b : Int) a1 2200 (f4_c18 (b : Int) 2200) m (i : Int) (inkR n (a1.take i)) (braR n (a1.take i)) = f4_c18 (b : Int) 2200 (inkR n (a1.take j)) (braR n (a1.take j)) := by
    intro m
    induction m with
    | zero => intro i _ _ h; omega
    | succ m ih =>
      intro i hi ha hm
      conv => enter [1, j, 2, 2, 1]; unfold f4_9 f4_9b
      by_cases c1 : i < a1.length
      · by_cases c2 : i < 3
        · have hbl := braR_len (n := n) (l := a1.take i)
          have htl : (a1.take i).length = i := by simp; omega
          have hmul : i * n ≤ 2 * 6 := Nat.mul_le_mul (by omega) hn.2
          rw [htl] at hbl
          simp only [show (i : Int) < (a1.length : Int) by omega, show (i : Int) < 3 by omega, decide_true, cond_true, joinK]
          have h13 := hin i a1[i] (braR n (a1.take i)) (f4_c17 (b : Int) a1 (i : Int) (inkR n (a1.take i)) (f4_c10 (b : Int) a1 (i : Int) (f4_9 (b : Int) a1 2200 (f4_c18 (b : Int) 2200) m))) (by simp [c1]) (by omega) 2200 0 (by omega) (by omega)
          rw [show ((0 : Nat) : Int) = 0 from rfl, show lk n a1[i] 0 = [] from rfl, show cab n a1[i] 0 = [] from rfl, List.append_nil] at h13
          rw [h13]
          unfold f4_c17 f4_c10
          have hil : (inkR n (a1.take i)).length = i := by simp [inkR]; omega
          rw [app_ok (by simp [hil]; omega) (by simp [hil]; omega)]
          simp only [Option.bind_some]
          rw [W_nat (by omega)]
          obtain ⟨j, j1, j2, j3⟩ := ih (i + 1) (by omega) (by omega) (by omega)
          refine ⟨j, j1, j2, ?_⟩
          rw [← j3]
          have ht : a1.take (i + 1) = a1.take i ++ [a1[i]] := by
            rw [List.take_add_one, List.getElem?_eq_getElem c1]; simp
          rw [ht, show inkR n (a1.take i ++ [a1[i]]) = inkR n (a1.take i) ++ [lk n a1[i] n] by simp only [inkR, List.map_append, List.map_cons, List.map_nil], show braR n (a1.take i ++ [a1[i]]) = braR n (a1.take i) ++ cab n a1[i] n by simp only [braR, List.flatMap_append, List.flatMap_cons, List.flatMap_nil, List.append_nil, List.append_assoc]]
        · simp only [show (i : Int) < (a1.length : Int) by omega, show ¬ (i : Int) < 3 by omega, decide_true, cond_true, decide_false, cond_false]
          exact ⟨i, hi, ha, rfl⟩
      · simp only [show ¬ (i : Int) < (a1.length : Int) by omega, decide_false, cond_false]
        exact ⟨i, hi, ha, rfl⟩
  obtain ⟨j, j1, j2, j3⟩ := key 2200 0 (by omega) (by omega) (by omega)
  rw [show ((0 : Nat) : Int) = 0 from rfl, List.take_zero, show inkR n [] = [] from rfl, show braR n [] = rods n by simp [braR]] at j3
  rw [j3]
  by_cases hj : j = 0
  · subst hj
    rw [List.take_zero]
    unfold f4_c18
    simp [inkR, f13_any 2000]
  · have hl : (a1.take j).length = j := by simp; omega
    exact f4_rest (p := palR n (a1.take j)) hw hn (palR_ok hn (by omega) (by omega)) (rackR_ok hn (by omega)) rfl (by rw [show (palR n (a1.take j)).Inks.length = (a1.take j).length by simp only [palR, inkR, List.length_map]]; omega)
end Go.Vc
namespace Go.Vc
set_option linter.unusedVariables false
set_option linter.unnecessarySimpa false
set_option linter.unusedSimpArgs false
set_option linter.unusedSimpArgs false
abbrev tB : Ty := .int .u8
def u8In (n : Int) : Prop := 0 ≤ n ∧ n ≤ 255
theorem tB_of {ds : List D} (h : tB.has ds) : ∃ n, ds = [u8N n] ∧ u8In n := by
  simp only [tB, Ty.has] at h
  obtain ⟨n, rfl, h⟩ := h
  exact ⟨n, rfl, by simpa [IntKind.min, IntKind.max, IntKind.signed, IntKind.bits, u8In] using h⟩
theorem tB_of' {ds : List D} (h : (Ty.int .u8).has ds) : ∃ n, ds = [u8N n] ∧ u8In n := tB_of h
theorem tB_ofD {x : D} (h : tB.hasD x) : ∃ n, x = u8N n ∧ u8In n := by
  obtain ⟨n, h1, h2⟩ := tB_of (ds := [x]) h
  exact ⟨n, List.singleton_inj.1 h1, h2⟩
abbrev tA6 : Ty := .comp [tB, tB, tB, tB, tB, tB]
def A6In (x : A6u8N) : Prop := u8In x.e0 ∧ u8In x.e1 ∧ u8In x.e2 ∧ u8In x.e3 ∧ u8In x.e4 ∧ u8In x.e5
theorem A6_of {ds : List D} (h : tA6.has ds) : ∃ a : A6u8N, D.agg ds = A6u8N.d a ∧ A6In a := by
  simp only [tA6, Ty.has] at h
  rw [Ty.hasL] at h
  obtain ⟨a0, b0, rfl, h0, h⟩ := h
  rw [Ty.hasL] at h
  obtain ⟨a1, b1, rfl, h1, h⟩ := h
  rw [Ty.hasL] at h
  obtain ⟨a2, b2, rfl, h2, h⟩ := h
  rw [Ty.hasL] at h
  obtain ⟨a3, b3, rfl, h3, h⟩ := h
  rw [Ty.hasL] at h
  obtain ⟨a4, b4, rfl, h4, h⟩ := h
  rw [Ty.hasL] at h
  obtain ⟨a5, b5, rfl, h5, h⟩ := h
  simp only [Ty.hasL] at h
  subst h
  obtain ⟨x0, rfl, p0⟩ := tB_of' h0
  obtain ⟨x1, rfl, p1⟩ := tB_of' h1
  obtain ⟨x2, rfl, p2⟩ := tB_of' h2
  obtain ⟨x3, rfl, p3⟩ := tB_of' h3
  obtain ⟨x4, rfl, p4⟩ := tB_of' h4
  obtain ⟨x5, rfl, p5⟩ := tB_of' h5
  exact ⟨⟨x0, x1, x2, x3, x4, x5⟩, rfl, p0, p1, p2, p3, p4, p5⟩
abbrev tArrs : Ty := .slice tA6 true 6
theorem arrs_ofD {x : D} (h : tArrs.hasD x) : ∃ l : List A6u8N, x = sl_A6u8N l ∧ ∀ a, a ∈ l → A6In a := by
  obtain ⟨l, h1, _, h3⟩ := slice_of (d := A6u8N.d) (p := A6In) (ds := [x]) (fun cs hc => by
    obtain ⟨n, h0, h⟩ := A6_of hc
    exact ⟨n, h0, h⟩) h
  exact ⟨l, List.singleton_inj.1 h1, h3⟩
end Go.Vc
namespace Go.Vc
theorem By6.of {a : A6u8N} (h : A6In a) : By6 a := by
  intro c
  obtain ⟨h0, h1, h2, h3, h4, h5⟩ := h
  unfold u8In at h0 h1 h2 h3 h4 h5
  unfold get6
  match c with
  | 0 => exact h0
  | 1 => exact h1
  | 2 => exact h2
  | 3 => exact h3
  | 4 => exact h4
  | 5 => exact h5
  | c + 6 => simp
theorem f4_of {a0 : Int} {a1 : List A6u8N} (h0 : u8In a0) (h1 : ∀ a, a ∈ a1 → A6In a) : f4 2200 a0 a1 = some true := f4_true h0 fun a ha => By6.of (h1 a ha)
end Go.Vc

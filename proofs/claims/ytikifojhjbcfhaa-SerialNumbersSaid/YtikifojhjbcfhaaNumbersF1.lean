/-
  A library for proofs about Go functions by symbolic evaluation, and plain Lean functions that the walked Go functions compute (written by a program of this claim).
-/
import Derived.Test.YtikifojhjbcfhaaW1
import Derived.Test.YtikifojhjbcfhaaW4
import Derived.Test.YtikifojhjbcfhaaW2
import Derived.Test.YtikifojhjbcfhaaVc3
namespace Go.Vc
open Go.Proofs
set_option linter.unusedVariables false
set_option linter.unnecessarySimpa false
set_option linter.unusedSimpArgs false
section
variable {c : Ctx} {p nid : Nat} {a b : Code} {st : St} {K : Ex → St → Prop}
/- f20: tusche/tuschelaw01.large -/
def f20_c8 : Option (Bool) :=
 some (false)
def Lf20_c8 : Lp (Unit) Unit (Bool) := lp0 ⟨[], [], [], []⟩ (fun _ => []) (fun _ => []) (fun _ => f20_c8)
theorem Ef20_c8 : (Lf20_c8).E () = f20_c8 := rfl
def f20_4b (r4 : Int → Option (Bool)) (a0 : List (List Int)) (k0 : Option (Bool)) (i3 : Int) : Option (Bool) :=
 bif decide (i3 < (List.length a0 : Int)) then ((ix a0 i3).bind fun x1 =>
 bif decide ((20 : Int) < (List.length x1 : Int)) then (some (true))
 else (r4 (W (i3 + (1 : Int)))))
 else k0
def f20_4 (a0 : List (List Int)) (k0 : Option (Bool)) : Nat → Int → Option (Bool)
  | 0, _ => none
  | n + 1, i3 => f20_4b (f20_4 a0 k0 n) a0 k0 i3
def Lf20_4 (a0 : List (List Int)) (k0 : Option (Bool)) : Lp (Nat × Int) Unit (Bool) := lp0 ⟨[0, 3], [], [], []⟩ (fun (_, i3) => [.dat (sl_sl_iN a0), .dat (iN i3)]) (fun (_, _) => []) (fun (n, i3) => f20_4 a0 k0 n i3)
theorem Ef20_4 {a0 k0 n i3} : (Lf20_4 a0 k0).E (n, i3) = f20_4 a0 k0 n i3 := rfl
def f20 (N : Nat) (a0 : List (List Int)) : Option (Bool) :=
 bif decide ((20 : Int) < (List.length a0 : Int)) then (some (true))
 else (joinK f20_c8 fun k0 =>
 f20_4 a0 k0 N (0 : Int))
def G20 (ds : List D) (d : D) : Prop := ∃ (N : Nat) (a0 : List (List Int)) (r : Bool), ds = [sl_sl_iN a0] ∧ f20 N a0 = some r ∧ d = bN r
theorem G20.lend {N : Nat} {a0 : List (List Int)} {ρ : Type} {A : Bool → Option ρ} {q : ρ} {ds : List D} {K : D → Prop} (hd : ds = [sl_sl_iN a0]) (h : ∀ r, A r = some q → K (bN r)) (hF : (f20 N a0).bind A = some q) : ∃ d, (G20 ds d ∧ d.flatB = true) ∧ K d := by
  obtain ⟨r, hr, hA⟩ := bind_some hF
  exact ⟨_, ⟨⟨N, a0, r, hd, hr, rfl⟩, rfl⟩, h r hA⟩
theorem G20.step {N : Nat} {a0 : List (List Int)} {ρ : Type} {A : Bool → Option ρ} {q : ρ} {ds : List D} {K : D → Prop} (hd : ds = [sl_sl_iN a0]) (h : ∀ r, A r = some q → K (bN r)) (hF : (f20 N a0).bind A = some q) : ∃ d, G20 ds d ∧ K d := by
  obtain ⟨r, hr, hA⟩ := bind_some hF
  exact ⟨_, ⟨N, a0, r, hd, hr, rfl⟩, h r hA⟩
set_option maxRecDepth 20000 in
set_option maxHeartbeats 4000000 in
theorem P20 : PureOK Try.prog 20 G20 := by
  refine pure_of_vc (c := mkCtx tyTree []) rfl tyOK (ctx_nil) [[0]] 1 Try.func20 rfl rfl (by decide) (by kernel_rfl) ?_
  rintro ds d ⟨N, a0, r, rfl, hF, rfl⟩ hok
  clear hok
  refine ⟨rfl, ?_⟩
  show vc _ _ _ _ ⟨[(0, .dat (sl_sl_iN a0))], []⟩ _
  unfold f20 at hF
  repeat' (first
    | ((with_reducible first | refine q0 _ _ ?_ | refine q1 _ _ _ _ ?_ | refine q2 _ _ _ ?_); clear Q q0 q1 q2)
    | ((with_reducible first | refine seq_op ?hx (fun Q q0 q1 q2 => ?_)); (case hx => exact rfl); conv => whnf)
    | ((with_reducible refine cond_id ?_); (first | ((refine condKT rfl ?hy ?_); (case hy => first | assumption | exact notT (by assumption) | exact rfl)) | ((refine condKF rfl ?hy ?_); (case hy => first | assumption | exact notF (by assumption) | exact rfl)) | (revert hF; (with_reducible refine condF ?hx ?_ ?_); (case hx => exact rfl); all_goals (intro hc hF))))
    | ((with_reducible refine seq_nil ?_); (first | ((with_reducible refine hR _ ?_); clear R hR) | ((with_reducible refine hL _ ?_); clear L hL)))
    | ((with_reducible first | refine int_step ?_ | refine len_step ?_ | refine idx2 (by assumption) ?_ | refine idx3 (by assumption) ?_); conv => whnf)
    | (with_reducible first | refine vc_block ?_ | refine vc_skip ?_ | refine vc_ret ?_ | refine vc_exit ?_ | refine vc_region (fun R hR => ?_) | refine k_seq_ret ?_ | refine k_seq_exit ?_ | refine k_blk ?_ | refine k_blk_ret ?_ | refine k_blk_here ?_ | refine k_loop_ret ?_ | refine k_loop_exit ?_)
    | ((with_reducible refine vc_seqN [8] ?hx ?_); (case hx => exact rfl))
    | (revert hF; (refine Lp.cut0 Lf20_c8 f20_c8 8 rfl rfl ?_ ?_); (intro hF); rotate_left; (rintro _ hF; dsimp only [Lf20_c8] at hF; unfold f20_c8 at hF); rotate_right)
    | exact Lp.head Ef20_c8 hF () ⟨_, rfl, rfl, rfl, rfl⟩ rfl
    | (revert hF; (refine Lp.loop Ef20_4 () rfl ⟨_, rfl, rfl, rfl, rfl⟩ rfl (fun _ => rfl) ?_); rintro n i3 hF; dsimp only [Lf20_4, f20_4] at hF; unfold f20_4b at hF)
    | exact Lp.back Ef20_4 hF () ⟨_, rfl, rfl, rfl, rfl⟩ rfl
    | ((with_reducible first | refine k_blk_out ?hx ?_ | refine vc_condT ?hx ?_); (case hx => exact rfl))
    | (revert hF; (with_reducible refine idx1 ?hn ?_); (case hn => first | exact rfl | exact (List.length_map _) | assumption | omega | simp); intro x hx hF; conv => whnf)
    | ((refine row_all ?hn ?_); (case hn => first | exact rfl | (simp; done) | (simp; omega)); conv => whnf)
    | ((with_reducible refine le_step ?hn ?_); (case hn => first | exact rfl | assumption | omega); conv => whnf)
    | ((refine ⟨?hx, ?_⟩); (case hx => exact ⟨rfl, Nat.le_of_ble_eq_true rfl, rfl⟩); conv => whnf)
    | ((with_reducible refine ex_step ?_); conv => whnf)
    | ((with_reducible refine both_T ?hx ?_); (case hx => first | exact rfl | assumption | exact notT (by assumption)); conv => whnf)
    | ((with_reducible refine both_F ?hx ?_); (case hx => first | exact rfl | assumption | exact notF (by assumption)); conv => whnf)
    | (revert hF; (with_reducible refine ite_step ?_ ?_) <;> (intro hc hF; conv => whnf))
    | ((with_reducible refine vc_condF ?hx ?_); (case hx => exact rfl))
    | (show retD _ _ _ _ _ _; conv => whnf)
    | ((refine ⟨?hx, trivial⟩); (case hx => (cases hF; exact rfl)))
    | ((refine ⟨?hx, ?_⟩); (case hx => decide); conv => whnf)
    | with_reducible refine k_seq ?_
    | (have hF : (none : Option _) = some _ := hF; cases hF))
end
end Go.Vc
namespace Go.Vc
open Go.Proofs
set_option linter.unusedVariables false
set_option linter.unnecessarySimpa false
set_option linter.unusedSimpArgs false
section
variable {c : Ctx} {p nid : Nat} {a b : Code} {st : St} {K : Ex → St → Prop}
/- f57: tusche/tuscheref01.Is -/
def f57 (N : Nat) (a0 : Int) (a1 : Int) (a2 : Int) : Option (Bool) :=
 bif decide (a1 ≤ a0) then (some (decide (a0 ≤ a2)))
 else (some (false))
def G57 (ds : List D) (d : D) : Prop := ∃ (N : Nat) (a0 : Int) (a1 : Int) (a2 : Int) (r : Bool), ds = [iN a0, iN a1, iN a2] ∧ f57 N a0 a1 a2 = some r ∧ d = bN r
theorem G57.lend {N : Nat} {a0 : Int} {a1 : Int} {a2 : Int} {ρ : Type} {A : Bool → Option ρ} {q : ρ} {ds : List D} {K : D → Prop} (hd : ds = [iN a0, iN a1, iN a2]) (h : ∀ r, A r = some q → K (bN r)) (hF : (f57 N a0 a1 a2).bind A = some q) : ∃ d, (G57 ds d ∧ d.flatB = true) ∧ K d := by
  obtain ⟨r, hr, hA⟩ := bind_some hF
  exact ⟨_, ⟨⟨N, a0, a1, a2, r, hd, hr, rfl⟩, rfl⟩, h r hA⟩
theorem G57.step {N : Nat} {a0 : Int} {a1 : Int} {a2 : Int} {ρ : Type} {A : Bool → Option ρ} {q : ρ} {ds : List D} {K : D → Prop} (hd : ds = [iN a0, iN a1, iN a2]) (h : ∀ r, A r = some q → K (bN r)) (hF : (f57 N a0 a1 a2).bind A = some q) : ∃ d, G57 ds d ∧ K d := by
  obtain ⟨r, hr, hA⟩ := bind_some hF
  exact ⟨_, ⟨N, a0, a1, a2, r, hd, hr, rfl⟩, h r hA⟩
set_option maxRecDepth 20000 in
set_option maxHeartbeats 4000000 in
theorem P57 : PureOK Try.prog 57 G57 := by
  refine pure_of_vc (c := mkCtx tyTree []) rfl tyOK (ctx_nil) [[0]] 3 Try.func57 rfl rfl (by decide) (by kernel_rfl) ?_
  rintro ds d ⟨N, a0, a1, a2, r, rfl, hF, rfl⟩ hok
  clear hok
  refine ⟨rfl, ?_⟩
  show vc _ _ _ _ ⟨[(0, .dat (iN a0)), (1, .dat (iN a1)), (2, .dat (iN a2))], []⟩ _
  unfold f57 at hF
  repeat' (first
    | ((with_reducible first | refine q0 _ _ ?_ | refine q1 _ _ _ _ ?_ | refine q2 _ _ _ ?_); clear Q q0 q1 q2)
    | ((with_reducible first | refine seq_op ?hx (fun Q q0 q1 q2 => ?_)); (case hx => exact rfl); conv => whnf)
    | ((with_reducible first | refine seq_off ?hx ?_ | refine seq_off0 ?hx ?_); (case hx => exact rfl))
    | ((with_reducible refine seq_id ?_); (first | ((first | refine seq_opK rfl ?hy (fun Q q0 q1 q2 => ?_) | refine seq_opK0 rfl ?hy (fun Q q0 q1 q2 => ?_)); (case hy => first | assumption | exact notT (by assumption) | exact rfl); conv => whnf) | ((first | refine seq_offK rfl ?hy ?_ | refine seq_offK0 rfl ?hy ?_); (case hy => first | assumption | exact notF (by assumption) | exact rfl)) | (revert hF; (with_reducible first | refine seq_opF ?hx ?_ ?_ | refine seq_opF0 ?hx ?_ ?_); (case hx => exact rfl); (intro hc hF Q q0 q1 q2; conv => whnf); rotate_left; (intro hc hF); rotate_right) | (revert hF; (with_reducible first | refine seq_opN ?hx ?_ ?_ | refine seq_opN0 ?hx ?_ ?_); (case hx => exact rfl); (intro hc hF); rotate_left; (intro hc hF Q q0 q1 q2; conv => whnf); rotate_right)))
    | ((with_reducible refine seq_nil ?_); (first | ((with_reducible refine hR _ ?_); clear R hR) | ((with_reducible refine hL _ ?_); clear L hL)))
    | ((with_reducible first | refine int_step ?_); conv => whnf)
    | (with_reducible first | refine vc_skip ?_ | refine vc_ret ?_ | refine vc_region (fun R hR => ?_) | refine k_seq_ret ?_)
    | ((with_reducible refine vc_seqN [] ?hx ?_); (case hx => exact rfl))
    | ((refine row_all ?hn ?_); (case hn => first | exact rfl | (simp; done) | (simp; omega)); conv => whnf)
    | ((with_reducible refine le_step ?hn ?_); (case hn => first | exact rfl | assumption | omega); conv => whnf)
    | ((refine ⟨?hx, ?_⟩); (case hx => exact ⟨rfl, Nat.le_of_ble_eq_true rfl, rfl⟩); conv => whnf)
    | ((with_reducible refine ex_step ?_); conv => whnf)
    | ((with_reducible refine both_T ?hx ?_); (case hx => first | exact rfl | assumption | exact notT (by assumption)); conv => whnf)
    | ((with_reducible refine both_F ?hx ?_); (case hx => first | exact rfl | assumption | exact notF (by assumption)); conv => whnf)
    | (revert hF; (with_reducible refine ite_step ?_ ?_) <;> (intro hc hF; conv => whnf))
    | (show retD _ _ _ _ _ _; conv => whnf)
    | ((refine ⟨?hx, trivial⟩); (case hx => (cases hF; exact rfl)))
    | ((refine ⟨?hx, ?_⟩); (case hx => decide); conv => whnf)
    | with_reducible refine k_seq ?_
    | (have hF : (none : Option _) = some _ := hF; cases hF))
end
end Go.Vc
namespace Go.Vc
open Go.Proofs
set_option linter.unusedVariables false
set_option linter.unnecessarySimpa false
set_option linter.unusedSimpArgs false
section
variable {c : Ctx} {p nid : Nat} {a b : Code} {st : St} {K : Ex → St → Prop}
/- f50: tusche/tuscheref01.Check -/
def f50_c27 : Option (Int) :=
 some ((0 : Int))
def Lf50_c27 : Lp (Unit) Unit (Int) := lp0 ⟨[], [], [], []⟩ (fun _ => []) (fun _ => []) (fun _ => f50_c27)
theorem Ef50_c27 : (Lf50_c27).E () = f50_c27 := rfl
def f50_c18 (a0 : List (List Int)) (v6 : Int) (r17 : Int → Option (Int)) : Option (Int) :=
 r17 (W (v6 + (1 : Int)))
def Lf50_c18 (a0 : List (List Int)) (v6 : Int) (r17 : Int → Option (Int)) : Lp (Unit) Unit (Int) := lp0 ⟨[0, 6], [], [], []⟩ (fun _ => [.dat (sl_sl_iN a0), .dat (iN v6)]) (fun _ => []) (fun _ => f50_c18 a0 v6 r17)
theorem Ef50_c18 {a0 v6 r17} : (Lf50_c18 a0 v6 r17).E () = f50_c18 a0 v6 r17 := rfl
def f50_c21 (a0 : List (List Int)) (v6 : Int) (v7 : Int) (r20 : Int → Option (Int)) : Option (Int) :=
 r20 (W (v7 + (1 : Int)))
def Lf50_c21 (a0 : List (List Int)) (v6 : Int) (v7 : Int) (r20 : Int → Option (Int)) : Lp (Unit) Unit (Int) := lp0 ⟨[0, 6, 7], [], [], []⟩ (fun _ => [.dat (sl_sl_iN a0), .dat (iN v6), .dat (iN v7)]) (fun _ => []) (fun _ => f50_c21 a0 v6 v7 r20)
theorem Ef50_c21 {a0 v6 v7 r20} : (Lf50_c21 a0 v6 v7 r20).E () = f50_c21 a0 v6 v7 r20 := rfl
def f50_23b (r23 : Int → Option (Int)) (a0 : List (List Int)) (v6 : Int) (v7 : Int) (k2 : Option (Int)) (v8 : Int) : Option (Int) :=
 bif decide (v8 < v7) then ((ix a0 v6).bind fun x2 =>
 (ix x2 v7).bind fun x3 =>
 (ix a0 v6).bind fun x4 =>
 (ix x4 v8).bind fun x5 =>
 bif decide (x3 = x5) then (some ((6 : Int)))
 else ((ix a0 v7).bind fun x6 =>
 (ix x6 v6).bind fun x7 =>
 (ix a0 v8).bind fun x8 =>
 (ix x8 v6).bind fun x9 =>
 bif decide (x7 = x9) then (some ((6 : Int)))
 else (r23 (W (v8 + (1 : Int))))))
 else k2
def f50_23 (a0 : List (List Int)) (v6 : Int) (v7 : Int) (k2 : Option (Int)) : Nat → Int → Option (Int)
  | 0, _ => none
  | n + 1, v8 => f50_23b (f50_23 a0 v6 v7 k2 n) a0 v6 v7 k2 v8
def Lf50_23 (a0 : List (List Int)) (v6 : Int) (v7 : Int) (k2 : Option (Int)) : Lp (Nat × Int) Unit (Int) := lp0 ⟨[0, 6, 7, 8], [], [], []⟩ (fun (_, v8) => [.dat (sl_sl_iN a0), .dat (iN v6), .dat (iN v7), .dat (iN v8)]) (fun (_, _) => []) (fun (n, v8) => f50_23 a0 v6 v7 k2 n v8)
theorem Ef50_23 {a0 v6 v7 k2 n v8} : (Lf50_23 a0 v6 v7 k2).E (n, v8) = f50_23 a0 v6 v7 k2 n v8 := rfl
def f50_20b (r20 : Int → Option (Int)) (a0 : List (List Int)) (N : Nat) (v6 : Int) (k1 : Option (Int)) (v7 : Int) : Option (Int) :=
 bif decide (v7 < (List.length a0 : Int)) then (joinK (f50_c21 a0 v6 v7 r20) fun k2 =>
 f50_23 a0 v6 v7 k2 N (0 : Int))
 else k1
def f50_20 (a0 : List (List Int)) (N : Nat) (v6 : Int) (k1 : Option (Int)) : Nat → Int → Option (Int)
  | 0, _ => none
  | n + 1, v7 => f50_20b (f50_20 a0 N v6 k1 n) a0 N v6 k1 v7
def Lf50_20 (a0 : List (List Int)) (N : Nat) (v6 : Int) (k1 : Option (Int)) : Lp (Nat × Int) Unit (Int) := lp0 ⟨[0, 6, 7], [], [], []⟩ (fun (_, v7) => [.dat (sl_sl_iN a0), .dat (iN v6), .dat (iN v7)]) (fun (_, _) => []) (fun (n, v7) => f50_20 a0 N v6 k1 n v7)
theorem Ef50_20 {a0 N v6 k1 n v7} : (Lf50_20 a0 N v6 k1).E (n, v7) = f50_20 a0 N v6 k1 n v7 := rfl
def f50_17b (r17 : Int → Option (Int)) (a0 : List (List Int)) (N : Nat) (k0 : Option (Int)) (v6 : Int) : Option (Int) :=
 bif decide (v6 < (List.length a0 : Int)) then (joinK (f50_c18 a0 v6 r17) fun k1 =>
 f50_20 a0 N v6 k1 N (0 : Int))
 else k0
def f50_17 (a0 : List (List Int)) (N : Nat) (k0 : Option (Int)) : Nat → Int → Option (Int)
  | 0, _ => none
  | n + 1, v6 => f50_17b (f50_17 a0 N k0 n) a0 N k0 v6
def Lf50_17 (a0 : List (List Int)) (N : Nat) (k0 : Option (Int)) : Lp (Nat × Int) Unit (Int) := lp0 ⟨[0, 6], [], [], []⟩ (fun (_, v6) => [.dat (sl_sl_iN a0), .dat (iN v6)]) (fun (_, _) => []) (fun (n, v6) => f50_17 a0 N k0 n v6)
theorem Ef50_17 {a0 N k0 n v6} : (Lf50_17 a0 N k0).E (n, v6) = f50_17 a0 N k0 n v6 := rfl
def f50_c16 (a0 : List (List Int)) (N : Nat) : Option (Int) :=
 joinK f50_c27 fun k0 =>
 f50_17 a0 N k0 N (0 : Int)
def Lf50_c16 (a0 : List (List Int)) (N : Nat) : Lp (Unit) Unit (Int) := lp0 ⟨[0], [], [], []⟩ (fun _ => [.dat (sl_sl_iN a0)]) (fun _ => []) (fun _ => f50_c16 a0 N)
theorem Ef50_c16 {a0 N} : (Lf50_c16 a0 N).E () = f50_c16 a0 N := rfl
def f50_c10 (a0 : List (List Int)) (v4 : Int) (r9 : Int → Option (Int)) : Option (Int) :=
 r9 (W (v4 + (1 : Int)))
def Lf50_c10 (a0 : List (List Int)) (v4 : Int) (r9 : Int → Option (Int)) : Lp (Unit) Unit (Int) := lp0 ⟨[0, 4], [], [], []⟩ (fun _ => [.dat (sl_sl_iN a0), .dat (iN v4)]) (fun _ => []) (fun _ => f50_c10 a0 v4 r9)
theorem Ef50_c10 {a0 v4 r9} : (Lf50_c10 a0 v4 r9).E () = f50_c10 a0 v4 r9 := rfl
def f50_12b (r12 : Int → Option (Int)) (a0 : List (List Int)) (N : Nat) (v4 : Int) (k4 : Option (Int)) (v5 : Int) : Option (Int) :=
 bif decide (v5 < (List.length a0 : Int)) then ((ix a0 v4).bind fun x10 =>
 (ix x10 v5).bind fun x11 =>
 (f57 N x11 (0 : Int) (W ((List.length a0 : Int) - (1 : Int)))).bind fun x12 =>
 bif !x12 then (some ((4 : Int)))
 else (r12 (W (v5 + (1 : Int)))))
 else k4
def f50_12 (a0 : List (List Int)) (N : Nat) (v4 : Int) (k4 : Option (Int)) : Nat → Int → Option (Int)
  | 0, _ => none
  | n + 1, v5 => f50_12b (f50_12 a0 N v4 k4 n) a0 N v4 k4 v5
def Lf50_12 (a0 : List (List Int)) (N : Nat) (v4 : Int) (k4 : Option (Int)) : Lp (Nat × Int) Unit (Int) := lp0 ⟨[0, 4, 5], [], [], []⟩ (fun (_, v5) => [.dat (sl_sl_iN a0), .dat (iN v4), .dat (iN v5)]) (fun (_, _) => []) (fun (n, v5) => f50_12 a0 N v4 k4 n v5)
theorem Ef50_12 {a0 N v4 k4 n v5} : (Lf50_12 a0 N v4 k4).E (n, v5) = f50_12 a0 N v4 k4 n v5 := rfl
def f50_9b (r9 : Int → Option (Int)) (a0 : List (List Int)) (N : Nat) (k3 : Option (Int)) (v4 : Int) : Option (Int) :=
 bif decide (v4 < (List.length a0 : Int)) then (joinK (f50_c10 a0 v4 r9) fun k4 =>
 f50_12 a0 N v4 k4 N (0 : Int))
 else k3
def f50_9 (a0 : List (List Int)) (N : Nat) (k3 : Option (Int)) : Nat → Int → Option (Int)
  | 0, _ => none
  | n + 1, v4 => f50_9b (f50_9 a0 N k3 n) a0 N k3 v4
def Lf50_9 (a0 : List (List Int)) (N : Nat) (k3 : Option (Int)) : Lp (Nat × Int) Unit (Int) := lp0 ⟨[0, 4], [], [], []⟩ (fun (_, v4) => [.dat (sl_sl_iN a0), .dat (iN v4)]) (fun (_, _) => []) (fun (n, v4) => f50_9 a0 N k3 n v4)
theorem Ef50_9 {a0 N k3 n v4} : (Lf50_9 a0 N k3).E (n, v4) = f50_9 a0 N k3 n v4 := rfl
def f50_c8 (a0 : List (List Int)) (N : Nat) : Option (Int) :=
 joinK (f50_c16 a0 N) fun k3 =>
 f50_9 a0 N k3 N (0 : Int)
def Lf50_c8 (a0 : List (List Int)) (N : Nat) : Lp (Unit) Unit (Int) := lp0 ⟨[0], [], [], []⟩ (fun _ => [.dat (sl_sl_iN a0)]) (fun _ => []) (fun _ => f50_c8 a0 N)
theorem Ef50_c8 {a0 N} : (Lf50_c8 a0 N).E () = f50_c8 a0 N := rfl
def f50_4b (r4 : Int → Option (Int)) (a0 : List (List Int)) (k5 : Option (Int)) (v3 : Int) : Option (Int) :=
 bif decide (v3 < (List.length a0 : Int)) then ((ix a0 v3).bind fun x13 =>
 bif decide (¬ (List.length x13 : Int) = (List.length a0 : Int)) then (some ((3 : Int)))
 else (r4 (W (v3 + (1 : Int)))))
 else k5
def f50_4 (a0 : List (List Int)) (k5 : Option (Int)) : Nat → Int → Option (Int)
  | 0, _ => none
  | n + 1, v3 => f50_4b (f50_4 a0 k5 n) a0 k5 v3
def Lf50_4 (a0 : List (List Int)) (k5 : Option (Int)) : Lp (Nat × Int) Unit (Int) := lp0 ⟨[0, 3], [], [], []⟩ (fun (_, v3) => [.dat (sl_sl_iN a0), .dat (iN v3)]) (fun (_, _) => []) (fun (n, v3) => f50_4 a0 k5 n v3)
theorem Ef50_4 {a0 k5 n v3} : (Lf50_4 a0 k5).E (n, v3) = f50_4 a0 k5 n v3 := rfl
def f50 (N : Nat) (a0 : List (List Int)) : Option (Int) :=
 (f57 N (List.length a0 : Int) (2 : Int) (10 : Int)).bind fun x1 =>
 bif !x1 then (some ((3 : Int)))
 else (joinK (f50_c8 a0 N) fun k5 =>
 f50_4 a0 k5 N (0 : Int))
def G50 (ds : List D) (d : D) : Prop := ∃ (N : Nat) (a0 : List (List Int)) (r : Int), ds = [sl_sl_iN a0] ∧ f50 N a0 = some r ∧ d = iN r
theorem G50.lend {N : Nat} {a0 : List (List Int)} {ρ : Type} {A : Int → Option ρ} {q : ρ} {ds : List D} {K : D → Prop} (hd : ds = [sl_sl_iN a0]) (h : ∀ r, A r = some q → K (iN r)) (hF : (f50 N a0).bind A = some q) : ∃ d, (G50 ds d ∧ d.flatB = true) ∧ K d := by
  obtain ⟨r, hr, hA⟩ := bind_some hF
  exact ⟨_, ⟨⟨N, a0, r, hd, hr, rfl⟩, rfl⟩, h r hA⟩
theorem G50.step {N : Nat} {a0 : List (List Int)} {ρ : Type} {A : Int → Option ρ} {q : ρ} {ds : List D} {K : D → Prop} (hd : ds = [sl_sl_iN a0]) (h : ∀ r, A r = some q → K (iN r)) (hF : (f50 N a0).bind A = some q) : ∃ d, G50 ds d ∧ K d := by
  obtain ⟨r, hr, hA⟩ := bind_some hF
  exact ⟨_, ⟨N, a0, r, hd, hr, rfl⟩, h r hA⟩
set_option maxRecDepth 20000 in
set_option maxHeartbeats 4000000 in
theorem P50 : PureOK Try.prog 50 G50 := by
  refine pure_of_vc (c := mkCtx tyTree [(57, true, lendPg [[0], [0], [0]] G57)]) rfl tyOK (ctx_lend (callable Try.func57 rfl rfl) P57 (ctx_nil)) [[0]] 1 Try.func50 rfl rfl (by decide) (by kernel_rfl) ?_
  rintro ds d ⟨N, a0, r, rfl, hF, rfl⟩ hok
  clear hok
  refine ⟨rfl, ?_⟩
  show vc _ _ _ _ ⟨[(0, .dat (sl_sl_iN a0))], []⟩ _
  unfold f50 at hF
  repeat' (first
    | ((with_reducible first | refine q0 _ _ ?_ | refine q1 _ _ _ _ ?_ | refine q2 _ _ _ ?_); clear Q q0 q1 q2)
    | ((with_reducible first | refine seq_op ?hx (fun Q q0 q1 q2 => ?_) | refine draw_op ?hx (fun Q q0 q1 q2 => ?_)); (case hx => exact rfl); conv => whnf)
    | ((with_reducible first | refine seq_off ?hx ?_ | refine seq_off0 ?hx ?_ | refine draw_off ?hx ?_ | refine draw_off0 ?hx ?_ | refine k_blk_out ?hx ?_ | refine vc_condT ?hx ?_); (case hx => exact rfl))
    | ((with_reducible refine draw_id ?_); (first | ((first | refine draw_opK rfl ?hy (fun Q q0 q1 q2 => ?_) | refine draw_opK0 rfl ?hy (fun Q q0 q1 q2 => ?_)); (case hy => first | assumption | exact notT (by assumption) | exact rfl); conv => whnf) | ((first | refine draw_offK rfl ?hy ?_ | refine draw_offK0 rfl ?hy ?_); (case hy => first | assumption | exact notF (by assumption) | exact rfl)) | (revert hF; (with_reducible first | refine draw_opF ?hx ?_ ?_ | refine draw_opF0 ?hx ?_ ?_); (case hx => exact rfl); (intro hc hF Q q0 q1 q2; conv => whnf); rotate_left; (intro hc hF); rotate_right) | (revert hF; (with_reducible first | refine draw_opN ?hx ?_ ?_ | refine draw_opN0 ?hx ?_ ?_); (case hx => exact rfl); (intro hc hF); rotate_left; (intro hc hF Q q0 q1 q2; conv => whnf); rotate_right)))
    | ((with_reducible refine cond_id ?_); (first | ((refine condKT rfl ?hy ?_); (case hy => first | assumption | exact notT (by assumption) | exact rfl)) | ((refine condKF rfl ?hy ?_); (case hy => first | assumption | exact notF (by assumption) | exact rfl)) | (revert hF; (with_reducible refine condF ?hx ?_ ?_); (case hx => exact rfl); all_goals (intro hc hF))))
    | ((with_reducible refine seq_nil ?_); (first | ((with_reducible refine hR _ ?_); clear R hR) | ((with_reducible refine hL _ ?_); clear L hL)))
    | ((with_reducible refine draw_nil ?_); (with_reducible refine hR _ _ ?hx ?_); (case hx => kernel_rfl); (first | clear R hR | clear hR))
    | ((with_reducible first | refine int_step ?_ | refine len_step ?_ | refine idx2 (by assumption) ?_ | refine idx3 (by assumption) ?_); conv => whnf)
    | (with_reducible first | refine vc_block ?_ | refine vc_skip ?_ | refine vc_ret ?_ | refine vc_exit ?_ | refine vc_region (fun R hR => ?_) | refine k_seq_ret ?_ | refine k_seq_exit ?_ | refine k_blk ?_ | refine k_blk_ret ?_ | refine k_blk_here ?_ | refine k_loop_ret ?_ | refine k_loop_exit ?_)
    | ((with_reducible refine vc_seqN [27, 18, 21, 16, 10, 8] ?hx ?_); (case hx => exact rfl))
    | ((with_reducible refine vc_draw ?hx (fun R hR => ?_)); (case hx => exact rfl))
    | (revert hF; (refine Lp.cut0 Lf50_c27 f50_c27 27 rfl rfl ?_ ?_); (intro hF); rotate_left; (rintro _ hF; dsimp only [Lf50_c27] at hF; unfold f50_c27 at hF); rotate_right)
    | exact Lp.head Ef50_c27 hF () ⟨_, rfl, rfl, rfl, rfl⟩ rfl
    | (revert hF; (refine Lp.cut3 Lf50_c18 f50_c18 18 rfl rfl ?_ ?_); (intro hF); rotate_left; (rintro _ hF; dsimp only [Lf50_c18] at hF; unfold f50_c18 at hF); rotate_right)
    | exact Lp.head Ef50_c18 hF () ⟨_, rfl, rfl, rfl, rfl⟩ rfl
    | (revert hF; (refine Lp.cut4 Lf50_c21 f50_c21 21 rfl rfl ?_ ?_); (intro hF); rotate_left; (rintro _ hF; dsimp only [Lf50_c21] at hF; unfold f50_c21 at hF); rotate_right)
    | exact Lp.head Ef50_c21 hF () ⟨_, rfl, rfl, rfl, rfl⟩ rfl
    | (revert hF; (refine Lp.loop Ef50_23 () rfl ⟨_, rfl, rfl, rfl, rfl⟩ rfl (fun _ => rfl) ?_); rintro n v8 hF; dsimp only [Lf50_23, f50_23] at hF; unfold f50_23b at hF)
    | exact Lp.back Ef50_23 hF () ⟨_, rfl, rfl, rfl, rfl⟩ rfl
    | (revert hF; (refine Lp.loop Ef50_20 () rfl ⟨_, rfl, rfl, rfl, rfl⟩ rfl (fun _ => rfl) ?_); rintro n v7 hF; dsimp only [Lf50_20, f50_20] at hF; unfold f50_20b at hF)
    | exact Lp.back Ef50_20 hF () ⟨_, rfl, rfl, rfl, rfl⟩ rfl
    | (revert hF; (refine Lp.loop Ef50_17 () rfl ⟨_, rfl, rfl, rfl, rfl⟩ rfl (fun _ => rfl) ?_); rintro n v6 hF; dsimp only [Lf50_17, f50_17] at hF; unfold f50_17b at hF)
    | exact Lp.back Ef50_17 hF () ⟨_, rfl, rfl, rfl, rfl⟩ rfl
    | (revert hF; (refine Lp.cut2 Lf50_c16 f50_c16 16 rfl rfl ?_ ?_); (intro hF); rotate_left; (rintro _ hF; dsimp only [Lf50_c16] at hF; unfold f50_c16 at hF); rotate_right)
    | exact Lp.head Ef50_c16 hF () ⟨_, rfl, rfl, rfl, rfl⟩ rfl
    | (revert hF; (refine Lp.cut3 Lf50_c10 f50_c10 10 rfl rfl ?_ ?_); (intro hF); rotate_left; (rintro _ hF; dsimp only [Lf50_c10] at hF; unfold f50_c10 at hF); rotate_right)
    | exact Lp.head Ef50_c10 hF () ⟨_, rfl, rfl, rfl, rfl⟩ rfl
    | (revert hF; (refine Lp.loop Ef50_12 () rfl ⟨_, rfl, rfl, rfl, rfl⟩ rfl (fun _ => rfl) ?_); rintro n v5 hF; dsimp only [Lf50_12, f50_12] at hF; unfold f50_12b at hF)
    | exact Lp.back Ef50_12 hF () ⟨_, rfl, rfl, rfl, rfl⟩ rfl
    | (revert hF; (refine Lp.loop Ef50_9 () rfl ⟨_, rfl, rfl, rfl, rfl⟩ rfl (fun _ => rfl) ?_); rintro n v4 hF; dsimp only [Lf50_9, f50_9] at hF; unfold f50_9b at hF)
    | exact Lp.back Ef50_9 hF () ⟨_, rfl, rfl, rfl, rfl⟩ rfl
    | (revert hF; (refine Lp.cut2 Lf50_c8 f50_c8 8 rfl rfl ?_ ?_); (intro hF); rotate_left; (rintro _ hF; dsimp only [Lf50_c8] at hF; unfold f50_c8 at hF); rotate_right)
    | exact Lp.head Ef50_c8 hF () ⟨_, rfl, rfl, rfl, rfl⟩ rfl
    | (revert hF; (refine Lp.loop Ef50_4 () rfl ⟨_, rfl, rfl, rfl, rfl⟩ rfl (fun _ => rfl) ?_); rintro n v3 hF; dsimp only [Lf50_4, f50_4] at hF; unfold f50_4b at hF)
    | exact Lp.back Ef50_4 hF () ⟨_, rfl, rfl, rfl, rfl⟩ rfl
    | (revert hF; (with_reducible refine G57.lend ?hx ?_); (case hx => exact rfl); intro v hF; conv => whnf)
    | (revert hF; (with_reducible refine idx1 ?hn ?_); (case hn => first | exact rfl | exact (List.length_map _) | assumption | omega | simp); intro x hx hF; conv => whnf)
    | ((refine row_all ?hn ?_); (case hn => first | exact rfl | (simp; done) | (simp; omega)); conv => whnf)
    | ((with_reducible refine le_step ?hn ?_); (case hn => first | exact rfl | assumption | omega); conv => whnf)
    | ((refine ⟨?hx, ?_⟩); (case hx => exact ⟨rfl, Nat.le_of_ble_eq_true rfl, rfl⟩); conv => whnf)
    | ((with_reducible refine ex_step ?_); conv => whnf)
    | ((with_reducible refine both_T ?hx ?_); (case hx => first | exact rfl | assumption | exact notT (by assumption)); conv => whnf)
    | ((with_reducible refine both_F ?hx ?_); (case hx => first | exact rfl | assumption | exact notF (by assumption)); conv => whnf)
    | (revert hF; (with_reducible refine ite_step ?_ ?_) <;> (intro hc hF; conv => whnf))
    | ((with_reducible refine vc_condF ?hx ?_); (case hx => exact rfl))
    | (show retD _ _ _ _ _ _; conv => whnf)
    | ((refine ⟨?hx, trivial⟩); (case hx => (cases hF; exact rfl)))
    | ((refine ⟨?hx, ?_⟩); (case hx => decide); conv => whnf)
    | with_reducible refine k_seq ?_
    | (have hF : (none : Option _) = some _ := hF; cases hF))
end
end Go.Vc
namespace Go.Vc
open Go.Proofs
set_option linter.unusedVariables false
set_option linter.unnecessarySimpa false
set_option linter.unusedSimpArgs false
section
variable {c : Ctx} {p nid : Nat} {a b : Code} {st : St} {K : Ex → St → Prop}
/- f60: tusche/tuscheref01.digits -/
def f60_c9 (e5' : Int) : Option (Int) :=
 some (e5')
def Lf60_c9 : Lp (Int) Unit (Int) := lp0 ⟨[5], [], [], []⟩ (fun e5' => [.dat (iN (e5'))]) (fun _ => []) (fun e5' => f60_c9 e5')
theorem Ef60_c9 {e5'} : (Lf60_c9).E e5' = f60_c9 e5' := rfl
def f60_5b (r5 : Int → Int → Option (Int)) (a0 : List (List Int)) (a1 : List Int) (N : Nat) (k0 : Int → Option (Int)) (e5' : Int) (i6 : Int) : Option (Int) :=
 bif decide (i6 < (List.length a1 : Int)) then (bif decide ((e5') = (0 : Int)) then ((ix a1 i6).bind fun x2 =>
 (f57 N x2 (0 : Int) (W ((List.length a0 : Int) - (1 : Int)))).bind fun x3 =>
 bif !x3 then (r5 (4 : Int) (W (i6 + (1 : Int))))
 else (r5 (e5') (W (i6 + (1 : Int)))))
 else (r5 (e5') (W (i6 + (1 : Int)))))
 else (k0 (e5'))
def f60_5 (a0 : List (List Int)) (a1 : List Int) (N : Nat) (k0 : Int → Option (Int)) : Nat → Int → Int → Option (Int)
  | 0, _, _ => none
  | n + 1, e5', i6 => f60_5b (f60_5 a0 a1 N k0 n) a0 a1 N k0 e5' i6
def Lf60_5 (a0 : List (List Int)) (a1 : List Int) (N : Nat) (k0 : Int → Option (Int)) : Lp (Nat × Int × Int) Unit (Int) := lp0 ⟨[0, 1, 5, 6], [], [], []⟩ (fun (_, e5', i6) => [.dat (sl_sl_iN a0), .dat (sl_iN a1), .dat (iN (e5')), .dat (iN i6)]) (fun (_, _, _) => []) (fun (n, e5', i6) => f60_5 a0 a1 N k0 n e5' i6)
theorem Ef60_5 {a0 a1 N k0 n e5' i6} : (Lf60_5 a0 a1 N k0).E (n, e5', i6) = f60_5 a0 a1 N k0 n e5' i6 := rfl
def f60_c4 (a0 : List (List Int)) (a1 : List Int) (N : Nat) (e5 : Int) : Option (Int) :=
 joinK f60_c9 fun k0 =>
 f60_5 a0 a1 N k0 N e5 (0 : Int)
def Lf60_c4 (a0 : List (List Int)) (a1 : List Int) (N : Nat) : Lp (Int) Unit (Int) := lp0 ⟨[0, 1, 5], [], [], []⟩ (fun e5 => [.dat (sl_sl_iN a0), .dat (sl_iN a1), .dat (iN e5)]) (fun _ => []) (fun e5 => f60_c4 a0 a1 N e5)
theorem Ef60_c4 {a0 a1 N e5} : (Lf60_c4 a0 a1 N).E e5 = f60_c4 a0 a1 N e5 := rfl
def f60 (N : Nat) (a0 : List (List Int)) (a1 : List Int) : Option (Int) :=
 (f50 N a0).bind fun x1 =>
 joinK (f60_c4 a0 a1 N) fun k1 =>
 bif decide (x1 = (0 : Int)) then (bif decide ((12 : Int) < (List.length a1 : Int)) then (k1 (2 : Int))
 else (k1 x1))
 else (k1 x1)
def G60 (ds : List D) (d : D) : Prop := ∃ (N : Nat) (a0 : List (List Int)) (a1 : List Int) (r : Int), ds = [sl_sl_iN a0, sl_iN a1] ∧ f60 N a0 a1 = some r ∧ d = iN r
theorem G60.lend {N : Nat} {a0 : List (List Int)} {a1 : List Int} {ρ : Type} {A : Int → Option ρ} {q : ρ} {ds : List D} {K : D → Prop} (hd : ds = [sl_sl_iN a0, sl_iN a1]) (h : ∀ r, A r = some q → K (iN r)) (hF : (f60 N a0 a1).bind A = some q) : ∃ d, (G60 ds d ∧ d.flatB = true) ∧ K d := by
  obtain ⟨r, hr, hA⟩ := bind_some hF
  exact ⟨_, ⟨⟨N, a0, a1, r, hd, hr, rfl⟩, rfl⟩, h r hA⟩
theorem G60.step {N : Nat} {a0 : List (List Int)} {a1 : List Int} {ρ : Type} {A : Int → Option ρ} {q : ρ} {ds : List D} {K : D → Prop} (hd : ds = [sl_sl_iN a0, sl_iN a1]) (h : ∀ r, A r = some q → K (iN r)) (hF : (f60 N a0 a1).bind A = some q) : ∃ d, G60 ds d ∧ K d := by
  obtain ⟨r, hr, hA⟩ := bind_some hF
  exact ⟨_, ⟨N, a0, a1, r, hd, hr, rfl⟩, h r hA⟩
set_option maxRecDepth 20000 in
set_option maxHeartbeats 4000000 in
theorem P60 : PureOK Try.prog 60 G60 := by
  refine pure_of_vc (c := mkCtx tyTree [(57, true, lendPg [[0], [0], [0]] G57), (50, true, lendPg [[1]] G50)]) rfl tyOK (ctx_lend (callable Try.func57 rfl rfl) P57 (ctx_lend (callable Try.func50 rfl rfl) P50 (ctx_nil))) [[0]] 2 Try.func60 rfl rfl (by decide) (by kernel_rfl) ?_
  rintro ds d ⟨N, a0, a1, r, rfl, hF, rfl⟩ hok
  clear hok
  refine ⟨rfl, ?_⟩
  show vc _ _ _ _ ⟨[(0, .dat (sl_sl_iN a0)), (1, .dat (sl_iN a1))], []⟩ _
  unfold f60 at hF
  repeat' (first
    | ((with_reducible first | refine q0 _ _ ?_ | refine q1 _ _ _ _ ?_ | refine q2 _ _ _ ?_); clear Q q0 q1 q2)
    | ((with_reducible first | refine seq_op ?hx (fun Q q0 q1 q2 => ?_)); (case hx => exact rfl); conv => whnf)
    | ((with_reducible first | refine seq_off ?hx ?_ | refine seq_off0 ?hx ?_ | refine k_blk_out ?hx ?_ | refine vc_condT ?hx ?_); (case hx => exact rfl))
    | ((with_reducible refine seq_id ?_); (first | ((first | refine seq_opK rfl ?hy (fun Q q0 q1 q2 => ?_) | refine seq_opK0 rfl ?hy (fun Q q0 q1 q2 => ?_)); (case hy => first | assumption | exact notT (by assumption) | exact rfl); conv => whnf) | ((first | refine seq_offK rfl ?hy ?_ | refine seq_offK0 rfl ?hy ?_); (case hy => first | assumption | exact notF (by assumption) | exact rfl)) | (revert hF; (with_reducible first | refine seq_opF ?hx ?_ ?_ | refine seq_opF0 ?hx ?_ ?_); (case hx => exact rfl); (intro hc hF Q q0 q1 q2; conv => whnf); rotate_left; (intro hc hF); rotate_right) | (revert hF; (with_reducible first | refine seq_opN ?hx ?_ ?_ | refine seq_opN0 ?hx ?_ ?_); (case hx => exact rfl); (intro hc hF); rotate_left; (intro hc hF Q q0 q1 q2; conv => whnf); rotate_right)))
    | ((with_reducible refine cond_id ?_); (first | ((refine condKT rfl ?hy ?_); (case hy => first | assumption | exact notT (by assumption) | exact rfl)) | ((refine condKF rfl ?hy ?_); (case hy => first | assumption | exact notF (by assumption) | exact rfl)) | (revert hF; (with_reducible refine condF ?hx ?_ ?_); (case hx => exact rfl); all_goals (intro hc hF))))
    | ((with_reducible refine seq_nil ?_); (first | ((with_reducible refine hR _ ?_); clear R hR) | ((with_reducible refine hL _ ?_); clear L hL)))
    | ((with_reducible first | refine int_step ?_ | refine len_step ?_ | refine idx2 (by assumption) ?_ | refine idx3 (by assumption) ?_); conv => whnf)
    | (with_reducible first | refine vc_block ?_ | refine vc_skip ?_ | refine vc_ret ?_ | refine vc_exit ?_ | refine vc_region (fun R hR => ?_) | refine k_seq_ret ?_ | refine k_seq_exit ?_ | refine k_blk ?_ | refine k_blk_ret ?_ | refine k_blk_here ?_ | refine k_loop_ret ?_ | refine k_loop_exit ?_)
    | ((with_reducible refine vc_seqN [9, 4] ?hx ?_); (case hx => exact rfl))
    | (revert hF; (refine Lp.cut0 Lf60_c9 f60_c9 9 rfl rfl ?_ ?_); (intro hF); rotate_left; (rintro e5' hF; dsimp only [Lf60_c9] at hF; unfold f60_c9 at hF); rotate_right)
    | exact Lp.head Ef60_c9 hF () ⟨_, rfl, rfl, rfl, rfl⟩ rfl
    | (revert hF; (refine Lp.loop Ef60_5 () rfl ⟨_, rfl, rfl, rfl, rfl⟩ rfl (fun _ => rfl) ?_); rintro n ⟨e5', i6⟩ hF; dsimp only [Lf60_5, f60_5] at hF; unfold f60_5b at hF)
    | exact Lp.back Ef60_5 hF () ⟨_, rfl, rfl, rfl, rfl⟩ rfl
    | (revert hF; (refine Lp.cut3 Lf60_c4 f60_c4 4 rfl rfl ?_ ?_); (intro hF); rotate_left; (rintro e5 hF; dsimp only [Lf60_c4] at hF; unfold f60_c4 at hF); rotate_right)
    | exact Lp.head Ef60_c4 hF () ⟨_, rfl, rfl, rfl, rfl⟩ rfl
    | (revert hF; (with_reducible refine G50.lend ?hx ?_); (case hx => exact rfl); intro v hF; conv => whnf)
    | (revert hF; (with_reducible refine G57.lend ?hx ?_); (case hx => exact rfl); intro v hF; conv => whnf)
    | (revert hF; (with_reducible refine idx1 ?hn ?_); (case hn => first | exact rfl | exact (List.length_map _) | assumption | omega | simp); intro x hx hF; conv => whnf)
    | ((refine row_all ?hn ?_); (case hn => first | exact rfl | (simp; done) | (simp; omega)); conv => whnf)
    | ((with_reducible refine le_step ?hn ?_); (case hn => first | exact rfl | assumption | omega); conv => whnf)
    | ((refine ⟨?hx, ?_⟩); (case hx => exact ⟨rfl, Nat.le_of_ble_eq_true rfl, rfl⟩); conv => whnf)
    | ((with_reducible refine ex_step ?_); conv => whnf)
    | ((with_reducible refine both_T ?hx ?_); (case hx => first | exact rfl | assumption | exact notT (by assumption)); conv => whnf)
    | ((with_reducible refine both_F ?hx ?_); (case hx => first | exact rfl | assumption | exact notF (by assumption)); conv => whnf)
    | (revert hF; (with_reducible refine ite_step ?_ ?_) <;> (intro hc hF; conv => whnf))
    | ((with_reducible refine vc_condF ?hx ?_); (case hx => exact rfl))
    | (show retD _ _ _ _ _ _; conv => whnf)
    | ((refine ⟨?hx, trivial⟩); (case hx => (cases hF; exact rfl)))
    | ((refine ⟨?hx, ?_⟩); (case hx => decide); conv => whnf)
    | with_reducible refine k_seq ?_
    | (have hF : (none : Option _) = some _ := hF; cases hF))
end
end Go.Vc
namespace Go.Vc
open Go.Proofs
set_option linter.unusedVariables false
set_option linter.unnecessarySimpa false
set_option linter.unusedSimpArgs false
section
variable {c : Ctx} {p nid : Nat} {a b : Code} {st : St} {K : Ex → St → Prop}
/- f61: tusche/tuscheref01.state -/
def f61_c6 (s5 : Int) : Option (Int) :=
 some (s5)
def Lf61_c6 : Lp (Int) Unit (Int) := lp0 ⟨[5], [], [], []⟩ (fun s5 => [.dat (iN s5)]) (fun _ => []) (fun s5 => f61_c6 s5)
theorem Ef61_c6 {s5} : (Lf61_c6).E s5 = f61_c6 s5 := rfl
def f61_3b (r3 : Int → Int → Option (Int)) (a0 : List (List Int)) (a1 : List Int) (k0 : Int → Option (Int)) (s5 : Int) (i6 : Int) : Option (Int) :=
 bif decide (i6 < (List.length a1 : Int)) then ((ix a0 s5).bind fun x1 =>
 (ix a1 i6).bind fun x2 =>
 (ix x1 x2).bind fun x3 =>
 r3 x3 (W (i6 + (1 : Int))))
 else (k0 s5)
def f61_3 (a0 : List (List Int)) (a1 : List Int) (k0 : Int → Option (Int)) : Nat → Int → Int → Option (Int)
  | 0, _, _ => none
  | n + 1, s5, i6 => f61_3b (f61_3 a0 a1 k0 n) a0 a1 k0 s5 i6
def Lf61_3 (a0 : List (List Int)) (a1 : List Int) (k0 : Int → Option (Int)) : Lp (Nat × Int × Int) Unit (Int) := lp0 ⟨[0, 1, 5, 6], [], [], []⟩ (fun (_, s5, i6) => [.dat (sl_sl_iN a0), .dat (sl_iN a1), .dat (iN s5), .dat (iN i6)]) (fun (_, _, _) => []) (fun (n, s5, i6) => f61_3 a0 a1 k0 n s5 i6)
theorem Ef61_3 {a0 a1 k0 n s5 i6} : (Lf61_3 a0 a1 k0).E (n, s5, i6) = f61_3 a0 a1 k0 n s5 i6 := rfl
def f61 (N : Nat) (a0 : List (List Int)) (a1 : List Int) : Option (Int) :=
 joinK f61_c6 fun k0 =>
 f61_3 a0 a1 k0 N (0 : Int) (0 : Int)
def G61 (ds : List D) (d : D) : Prop := ∃ (N : Nat) (a0 : List (List Int)) (a1 : List Int) (r : Int), ds = [sl_sl_iN a0, sl_iN a1] ∧ f61 N a0 a1 = some r ∧ d = iN r
theorem G61.lend {N : Nat} {a0 : List (List Int)} {a1 : List Int} {ρ : Type} {A : Int → Option ρ} {q : ρ} {ds : List D} {K : D → Prop} (hd : ds = [sl_sl_iN a0, sl_iN a1]) (h : ∀ r, A r = some q → K (iN r)) (hF : (f61 N a0 a1).bind A = some q) : ∃ d, (G61 ds d ∧ d.flatB = true) ∧ K d := by
  obtain ⟨r, hr, hA⟩ := bind_some hF
  exact ⟨_, ⟨⟨N, a0, a1, r, hd, hr, rfl⟩, rfl⟩, h r hA⟩
theorem G61.step {N : Nat} {a0 : List (List Int)} {a1 : List Int} {ρ : Type} {A : Int → Option ρ} {q : ρ} {ds : List D} {K : D → Prop} (hd : ds = [sl_sl_iN a0, sl_iN a1]) (h : ∀ r, A r = some q → K (iN r)) (hF : (f61 N a0 a1).bind A = some q) : ∃ d, G61 ds d ∧ K d := by
  obtain ⟨r, hr, hA⟩ := bind_some hF
  exact ⟨_, ⟨N, a0, a1, r, hd, hr, rfl⟩, h r hA⟩
set_option maxRecDepth 20000 in
set_option maxHeartbeats 4000000 in
theorem P61 : PureOK Try.prog 61 G61 := by
  refine pure_of_vc (c := mkCtx tyTree []) rfl tyOK (ctx_nil) [[0]] 2 Try.func61 rfl rfl (by decide) (by kernel_rfl) ?_
  rintro ds d ⟨N, a0, a1, r, rfl, hF, rfl⟩ hok
  clear hok
  refine ⟨rfl, ?_⟩
  show vc _ _ _ _ ⟨[(0, .dat (sl_sl_iN a0)), (1, .dat (sl_iN a1))], []⟩ _
  unfold f61 at hF
  repeat' (first
    | ((with_reducible first | refine q0 _ _ ?_ | refine q1 _ _ _ _ ?_ | refine q2 _ _ _ ?_); clear Q q0 q1 q2)
    | ((with_reducible first | refine seq_op ?hx (fun Q q0 q1 q2 => ?_) | refine draw_op ?hx (fun Q q0 q1 q2 => ?_)); (case hx => exact rfl); conv => whnf)
    | ((with_reducible refine cond_id ?_); (first | ((refine condKT rfl ?hy ?_); (case hy => first | assumption | exact notT (by assumption) | exact rfl)) | ((refine condKF rfl ?hy ?_); (case hy => first | assumption | exact notF (by assumption) | exact rfl)) | (revert hF; (with_reducible refine condF ?hx ?_ ?_); (case hx => exact rfl); all_goals (intro hc hF))))
    | ((with_reducible refine seq_nil ?_); (first | ((with_reducible refine hR _ ?_); clear R hR) | ((with_reducible refine hL _ ?_); clear L hL)))
    | ((with_reducible refine draw_nil ?_); (with_reducible refine hR _ _ ?hx ?_); (case hx => kernel_rfl); (first | clear R hR | clear hR))
    | ((with_reducible first | refine int_step ?_ | refine len_step ?_ | refine idx2 (by assumption) ?_ | refine idx3 (by assumption) ?_); conv => whnf)
    | (with_reducible first | refine vc_block ?_ | refine vc_skip ?_ | refine vc_ret ?_ | refine vc_exit ?_ | refine vc_region (fun R hR => ?_) | refine k_seq_ret ?_ | refine k_seq_exit ?_ | refine k_blk ?_ | refine k_blk_ret ?_ | refine k_blk_here ?_ | refine k_loop_ret ?_ | refine k_loop_exit ?_)
    | ((with_reducible refine vc_seqN [6] ?hx ?_); (case hx => exact rfl))
    | ((with_reducible refine vc_draw ?hx (fun R hR => ?_)); (case hx => exact rfl))
    | (revert hF; (refine Lp.cut0 Lf61_c6 f61_c6 6 rfl rfl ?_ ?_); (intro hF); rotate_left; (rintro s5 hF; dsimp only [Lf61_c6] at hF; unfold f61_c6 at hF); rotate_right)
    | exact Lp.head Ef61_c6 hF () ⟨_, rfl, rfl, rfl, rfl⟩ rfl
    | (revert hF; (refine Lp.loop Ef61_3 () rfl ⟨_, rfl, rfl, rfl, rfl⟩ rfl (fun _ => rfl) ?_); rintro n ⟨s5, i6⟩ hF; dsimp only [Lf61_3, f61_3] at hF; unfold f61_3b at hF)
    | exact Lp.back Ef61_3 hF () ⟨_, rfl, rfl, rfl, rfl⟩ rfl
    | ((with_reducible first | refine k_blk_out ?hx ?_ | refine vc_condT ?hx ?_); (case hx => exact rfl))
    | (revert hF; (with_reducible refine idx1 ?hn ?_); (case hn => first | exact rfl | exact (List.length_map _) | assumption | omega | simp); intro x hx hF; conv => whnf)
    | ((refine row_all ?hn ?_); (case hn => first | exact rfl | (simp; done) | (simp; omega)); conv => whnf)
    | ((with_reducible refine le_step ?hn ?_); (case hn => first | exact rfl | assumption | omega); conv => whnf)
    | ((refine ⟨?hx, ?_⟩); (case hx => exact ⟨rfl, Nat.le_of_ble_eq_true rfl, rfl⟩); conv => whnf)
    | ((with_reducible refine ex_step ?_); conv => whnf)
    | ((with_reducible refine both_T ?hx ?_); (case hx => first | exact rfl | assumption | exact notT (by assumption)); conv => whnf)
    | ((with_reducible refine both_F ?hx ?_); (case hx => first | exact rfl | assumption | exact notF (by assumption)); conv => whnf)
    | (revert hF; (with_reducible refine ite_step ?_ ?_) <;> (intro hc hF; conv => whnf))
    | ((with_reducible refine vc_condF ?hx ?_); (case hx => exact rfl))
    | (show retD _ _ _ _ _ _; conv => whnf)
    | ((refine ⟨?hx, trivial⟩); (case hx => (cases hF; exact rfl)))
    | ((refine ⟨?hx, ?_⟩); (case hx => decide); conv => whnf)
    | with_reducible refine k_seq ?_
    | (have hF : (none : Option _) = some _ := hF; cases hF))
end
end Go.Vc
namespace Go.Vc
open Go.Proofs
set_option linter.unusedVariables false
set_option linter.unnecessarySimpa false
set_option linter.unusedSimpArgs false
section
variable {c : Ctx} {p nid : Nat} {a b : Code} {st : St} {K : Ex → St → Prop}
/- f22: tusche/tuscheref01.State -/
def f22 (N : Nat) (a0 : List (List Int)) (a1 : List Int) : Option (Int × Int) :=
 (f60 N a0 a1).bind fun x1 =>
 bif decide (¬ x1 = (0 : Int)) then (some ((0 : Int), x1))
 else ((f61 N a0 a1).bind fun x2 =>
 some (x2, (0 : Int)))
def G22 (ds : List D) (d : D) : Prop := ∃ (N : Nat) (a0 : List (List Int)) (a1 : List Int) (r : Int × Int), ds = [sl_sl_iN a0, sl_iN a1] ∧ f22 N a0 a1 = some r ∧ d = .tup [iN r.1, iN r.2]
theorem G22.lend {N : Nat} {a0 : List (List Int)} {a1 : List Int} {ρ : Type} {A : (Int × Int) → Option ρ} {q : ρ} {ds : List D} {K : D → Prop} (hd : ds = [sl_sl_iN a0, sl_iN a1]) (h : ∀ r, A r = some q → K (.tup [iN r.1, iN r.2])) (hF : (f22 N a0 a1).bind A = some q) : ∃ d, (G22 ds d ∧ d.flatB = true) ∧ K d := by
  obtain ⟨r, hr, hA⟩ := bind_some hF
  exact ⟨_, ⟨⟨N, a0, a1, r, hd, hr, rfl⟩, rfl⟩, h r hA⟩
theorem G22.step {N : Nat} {a0 : List (List Int)} {a1 : List Int} {ρ : Type} {A : (Int × Int) → Option ρ} {q : ρ} {ds : List D} {K : D → Prop} (hd : ds = [sl_sl_iN a0, sl_iN a1]) (h : ∀ r, A r = some q → K (.tup [iN r.1, iN r.2])) (hF : (f22 N a0 a1).bind A = some q) : ∃ d, G22 ds d ∧ K d := by
  obtain ⟨r, hr, hA⟩ := bind_some hF
  exact ⟨_, ⟨N, a0, a1, r, hd, hr, rfl⟩, h r hA⟩
set_option maxRecDepth 20000 in
set_option maxHeartbeats 4000000 in
theorem P22 : PureOK Try.prog 22 G22 := by
  refine pure_of_vc (c := mkCtx tyTree [(61, true, lendPg [[1], [1]] G61), (60, true, lendPg [[1], [1]] G60)]) rfl tyOK (ctx_lend (callable Try.func61 rfl rfl) P61 (ctx_lend (callable Try.func60 rfl rfl) P60 (ctx_nil))) [[0], [0]] 2 Try.func22 rfl rfl (by decide) (by kernel_rfl) ?_
  rintro ds d ⟨N, a0, a1, r, rfl, hF, rfl⟩ hok
  clear hok
  refine ⟨rfl, ?_⟩
  show vc _ _ _ _ ⟨[(0, .dat (sl_sl_iN a0)), (1, .dat (sl_iN a1))], []⟩ _
  unfold f22 at hF
  repeat' (first
    | ((with_reducible first | refine q0 _ _ ?_ | refine q1 _ _ _ _ ?_ | refine q2 _ _ _ ?_); clear Q q0 q1 q2)
    | ((with_reducible first | refine seq_op ?hx (fun Q q0 q1 q2 => ?_)); (case hx => exact rfl); conv => whnf)
    | ((with_reducible refine cond_id ?_); (first | ((refine condKT rfl ?hy ?_); (case hy => first | assumption | exact notT (by assumption) | exact rfl)) | ((refine condKF rfl ?hy ?_); (case hy => first | assumption | exact notF (by assumption) | exact rfl)) | (revert hF; (with_reducible refine condF ?hx ?_ ?_); (case hx => exact rfl); all_goals (intro hc hF))))
    | ((with_reducible refine seq_nil ?_); (first | ((with_reducible refine hR _ ?_); clear R hR) | ((with_reducible refine hL _ ?_); clear L hL)))
    | ((with_reducible first | refine int_step ?_); conv => whnf)
    | (with_reducible first | refine vc_block ?_ | refine vc_skip ?_ | refine vc_ret ?_ | refine vc_exit ?_ | refine vc_region (fun R hR => ?_) | refine k_seq_ret ?_ | refine k_seq_exit ?_ | refine k_blk ?_ | refine k_blk_ret ?_ | refine k_blk_here ?_)
    | ((with_reducible refine vc_seqN [] ?hx ?_); (case hx => exact rfl))
    | (revert hF; (with_reducible refine G60.lend ?hx ?_); (case hx => exact rfl); intro v hF; conv => whnf)
    | (revert hF; (with_reducible refine G61.lend ?hx ?_); (case hx => exact rfl); intro v hF; conv => whnf)
    | ((with_reducible first | refine k_blk_out ?hx ?_ | refine vc_condT ?hx ?_); (case hx => exact rfl))
    | ((refine row_all ?hn ?_); (case hn => first | exact rfl | (simp; done) | (simp; omega)); conv => whnf)
    | ((with_reducible refine le_step ?hn ?_); (case hn => first | exact rfl | assumption | omega); conv => whnf)
    | ((refine ⟨?hx, ?_⟩); (case hx => exact ⟨rfl, Nat.le_of_ble_eq_true rfl, rfl⟩); conv => whnf)
    | ((with_reducible refine ex_step ?_); conv => whnf)
    | ((with_reducible refine both_T ?hx ?_); (case hx => first | exact rfl | assumption | exact notT (by assumption)); conv => whnf)
    | ((with_reducible refine both_F ?hx ?_); (case hx => first | exact rfl | assumption | exact notF (by assumption)); conv => whnf)
    | (revert hF; (with_reducible refine ite_step ?_ ?_) <;> (intro hc hF; conv => whnf))
    | ((with_reducible refine vc_condF ?hx ?_); (case hx => exact rfl))
    | (show retD _ _ _ _ _ _; conv => whnf)
    | ((refine ⟨?hx, trivial⟩); (case hx => (cases hF; exact rfl)))
    | ((refine ⟨?hx, ?_⟩); (case hx => decide); conv => whnf)
    | with_reducible refine k_seq ?_
    | (have hF : (none : Option _) = some _ := hF; cases hF))
end
end Go.Vc
namespace Go.Vc
open Go.Proofs
set_option linter.unusedVariables false
set_option linter.unnecessarySimpa false
set_option linter.unusedSimpArgs false
section
variable {c : Ctx} {p nid : Nat} {a b : Code} {st : St} {K : Ex → St → Prop}
/- f24: tusche/tuscheref01.Digit -/
def f24_c7 (d8 : Int) : Option (Int × Int) :=
 some (d8, (0 : Int))
def Lf24_c7 : Lp (Int) Unit (Int × Int) := lp0 ⟨[8], [], [], []⟩ (fun d8 => [.dat (iN d8)]) (fun _ => []) (fun d8 => f24_c7 d8)
theorem Ef24_c7 {d8} : (Lf24_c7).E d8 = f24_c7 d8 := rfl
def f24_5b (r5 : Int → Option (Int × Int)) (a0 : List (List Int)) (x1 : Int × Int) (k0 : Int → Option (Int × Int)) (d8 : Int) : Option (Int × Int) :=
 (ix a0 x1.1).bind fun x2 =>
 (ix x2 d8).bind fun x3 =>
 bif decide (¬ x3 = (0 : Int)) then (r5 (W (d8 + (1 : Int))))
 else (k0 d8)
def f24_5 (a0 : List (List Int)) (x1 : Int × Int) (k0 : Int → Option (Int × Int)) : Nat → Int → Option (Int × Int)
  | 0, _ => none
  | n + 1, d8 => f24_5b (f24_5 a0 x1 k0 n) a0 x1 k0 d8
def Lf24_5 (a0 : List (List Int)) (x1 : Int × Int) (k0 : Int → Option (Int × Int)) : Lp (Nat × Int) Unit (Int × Int) := lp0 ⟨[0, 6, 8], [], [], []⟩ (fun (_, d8) => [.dat (sl_sl_iN a0), .dat (iN x1.1), .dat (iN d8)]) (fun (_, _) => []) (fun (n, d8) => f24_5 a0 x1 k0 n d8)
theorem Ef24_5 {a0 x1 k0 n d8} : (Lf24_5 a0 x1 k0).E (n, d8) = f24_5 a0 x1 k0 n d8 := rfl
def f24 (N : Nat) (a0 : List (List Int)) (a1 : List Int) : Option (Int × Int) :=
 (f22 N a0 a1).bind fun x1 =>
 bif decide (¬ x1.2 = (0 : Int)) then (some ((0 : Int), x1.2))
 else (joinK f24_c7 fun k0 =>
 f24_5 a0 x1 k0 N (0 : Int))
def G24 (ds : List D) (d : D) : Prop := ∃ (N : Nat) (a0 : List (List Int)) (a1 : List Int) (r : Int × Int), ds = [sl_sl_iN a0, sl_iN a1] ∧ f24 N a0 a1 = some r ∧ d = .tup [iN r.1, iN r.2]
theorem G24.lend {N : Nat} {a0 : List (List Int)} {a1 : List Int} {ρ : Type} {A : (Int × Int) → Option ρ} {q : ρ} {ds : List D} {K : D → Prop} (hd : ds = [sl_sl_iN a0, sl_iN a1]) (h : ∀ r, A r = some q → K (.tup [iN r.1, iN r.2])) (hF : (f24 N a0 a1).bind A = some q) : ∃ d, (G24 ds d ∧ d.flatB = true) ∧ K d := by
  obtain ⟨r, hr, hA⟩ := bind_some hF
  exact ⟨_, ⟨⟨N, a0, a1, r, hd, hr, rfl⟩, rfl⟩, h r hA⟩
theorem G24.step {N : Nat} {a0 : List (List Int)} {a1 : List Int} {ρ : Type} {A : (Int × Int) → Option ρ} {q : ρ} {ds : List D} {K : D → Prop} (hd : ds = [sl_sl_iN a0, sl_iN a1]) (h : ∀ r, A r = some q → K (.tup [iN r.1, iN r.2])) (hF : (f24 N a0 a1).bind A = some q) : ∃ d, G24 ds d ∧ K d := by
  obtain ⟨r, hr, hA⟩ := bind_some hF
  exact ⟨_, ⟨N, a0, a1, r, hd, hr, rfl⟩, h r hA⟩
set_option maxRecDepth 20000 in
set_option maxHeartbeats 4000000 in
theorem P24 : PureOK Try.prog 24 G24 := by
  refine pure_of_vc (c := mkCtx tyTree [(22, true, lendPg [[1], [1]] G22)]) rfl tyOK (ctx_lend (callable Try.func22 rfl rfl) P22 (ctx_nil)) [[0], [0]] 2 Try.func24 rfl rfl (by decide) (by kernel_rfl) ?_
  rintro ds d ⟨N, a0, a1, r, rfl, hF, rfl⟩ hok
  clear hok
  refine ⟨rfl, ?_⟩
  show vc _ _ _ _ ⟨[(0, .dat (sl_sl_iN a0)), (1, .dat (sl_iN a1))], []⟩ _
  unfold f24 at hF
  repeat' (first
    | ((with_reducible first | refine q0 _ _ ?_ | refine q1 _ _ _ _ ?_ | refine q2 _ _ _ ?_); clear Q q0 q1 q2)
    | ((with_reducible first | refine seq_op ?hx (fun Q q0 q1 q2 => ?_)); (case hx => exact rfl); conv => whnf)
    | ((with_reducible refine cond_id ?_); (first | ((refine condKT rfl ?hy ?_); (case hy => first | assumption | exact notT (by assumption) | exact rfl)) | ((refine condKF rfl ?hy ?_); (case hy => first | assumption | exact notF (by assumption) | exact rfl)) | (revert hF; (with_reducible refine condF ?hx ?_ ?_); (case hx => exact rfl); all_goals (intro hc hF))))
    | ((with_reducible refine seq_nil ?_); (first | ((with_reducible refine hR _ ?_); clear R hR) | ((with_reducible refine hL _ ?_); clear L hL)))
    | ((with_reducible first | refine int_step ?_ | refine idx2 (by assumption) ?_ | refine idx3 (by assumption) ?_); conv => whnf)
    | (with_reducible first | refine vc_block ?_ | refine vc_skip ?_ | refine vc_ret ?_ | refine vc_exit ?_ | refine vc_region (fun R hR => ?_) | refine k_seq_ret ?_ | refine k_seq_exit ?_ | refine k_blk ?_ | refine k_blk_ret ?_ | refine k_blk_here ?_ | refine k_loop_ret ?_ | refine k_loop_exit ?_)
    | ((with_reducible refine vc_seqN [7] ?hx ?_); (case hx => exact rfl))
    | (revert hF; (refine Lp.cut0 Lf24_c7 f24_c7 7 rfl rfl ?_ ?_); (intro hF); rotate_left; (rintro d8 hF; dsimp only [Lf24_c7] at hF; unfold f24_c7 at hF); rotate_right)
    | exact Lp.head Ef24_c7 hF () ⟨_, rfl, rfl, rfl, rfl⟩ rfl
    | (revert hF; (refine Lp.loop Ef24_5 () rfl ⟨_, rfl, rfl, rfl, rfl⟩ rfl (fun _ => rfl) ?_); rintro n d8 hF; dsimp only [Lf24_5, f24_5] at hF; unfold f24_5b at hF)
    | exact Lp.back Ef24_5 hF () ⟨_, rfl, rfl, rfl, rfl⟩ rfl
    | (revert hF; (with_reducible refine G22.lend ?hx ?_); (case hx => exact rfl); intro v hF; conv => whnf)
    | ((with_reducible first | refine k_blk_out ?hx ?_ | refine vc_condT ?hx ?_); (case hx => exact rfl))
    | (revert hF; (with_reducible refine idx1 ?hn ?_); (case hn => first | exact rfl | exact (List.length_map _) | assumption | omega | simp); intro x hx hF; conv => whnf)
    | ((refine row_all ?hn ?_); (case hn => first | exact rfl | (simp; done) | (simp; omega)); conv => whnf)
    | ((with_reducible refine le_step ?hn ?_); (case hn => first | exact rfl | assumption | omega); conv => whnf)
    | ((refine ⟨?hx, ?_⟩); (case hx => exact ⟨rfl, Nat.le_of_ble_eq_true rfl, rfl⟩); conv => whnf)
    | ((with_reducible refine ex_step ?_); conv => whnf)
    | ((with_reducible refine both_T ?hx ?_); (case hx => first | exact rfl | assumption | exact notT (by assumption)); conv => whnf)
    | ((with_reducible refine both_F ?hx ?_); (case hx => first | exact rfl | assumption | exact notF (by assumption)); conv => whnf)
    | (revert hF; (with_reducible refine ite_step ?_ ?_) <;> (intro hc hF; conv => whnf))
    | ((with_reducible refine vc_condF ?hx ?_); (case hx => exact rfl))
    | (show retD _ _ _ _ _ _; conv => whnf)
    | ((refine ⟨?hx, trivial⟩); (case hx => (cases hF; exact rfl)))
    | ((refine ⟨?hx, ?_⟩); (case hx => decide); conv => whnf)
    | with_reducible refine k_seq ?_
    | (have hF : (none : Option _) = some _ := hF; cases hF))
end
end Go.Vc
namespace Go.Vc
open Go.Proofs
set_option linter.unusedVariables false
set_option linter.unnecessarySimpa false
set_option linter.unusedSimpArgs false
section
variable {c : Ctx} {p nid : Nat} {a b : Code} {st : St} {K : Ex → St → Prop}
/- f36: tusche/tuscheref01.Code -/
def f36_c19 (a0 : List (List Int)) (N : Nat) (v11 : List Int) : Option ((List Int) × Int) :=
 (f24 N a0 v11).bind fun x4 =>
 (app 8 v11 [x4.1]).bind fun x5 =>
 some (x5, (0 : Int))
def Lf36_c19 (a0 : List (List Int)) (N : Nat) : Lp ((List Int)) (Nat) ((List Int) × Int) := ⟨⟨[0, 11], [90011], [(.slot 11, 90011, 3, 1)], []⟩, fun v11 => [.dat (sl_sl_iN a0), .rs 90011 (List.length v11)], fun v11 => [.row 3 1 (List.map iN v11)], fun v11 => f36_c19 a0 N v11, fun _ m0 => [.dat (sl_sl_iN a0), .rs 90011 m0], fun v11 _ => [.row 3 1 (List.map iN v11)], fun v11 => List.length v11, fun _ => rfl, fun _ => rfl⟩
theorem Ef36_c19 {a0 N v11} : (Lf36_c19 a0 N).E v11 = f36_c19 a0 N v11 := rfl
def f36_15b (r15 : Int → (List Int) → Int → Option ((List Int) × Int)) (a0 : List (List Int)) (k0 : (List Int) → Option ((List Int) × Int)) (v2 : Int) (v11 : List Int) (v12 : Int) : Option ((List Int) × Int) :=
 bif decide ((0 : Int) ≤ v12) then ((chk (decide ((List.length a0 : Int) ≠ 0))).bind fun _ =>
 (ix v11 v12).bind fun x6 =>
 (setx v11 v12 (Int.tmod v2 (List.length a0 : Int))).bind fun x7 =>
 (chk (decide ((List.length a0 : Int) ≠ 0))).bind fun _ =>
 r15 (W (Int.tdiv v2 (List.length a0 : Int))) x7 (W (v12 - (1 : Int))))
 else (k0 v11)
def f36_15 (a0 : List (List Int)) (k0 : (List Int) → Option ((List Int) × Int)) : Nat → Int → (List Int) → Int → Option ((List Int) × Int)
  | 0, _, _, _ => none
  | n + 1, v2, v11, v12 => f36_15b (f36_15 a0 k0 n) a0 k0 v2 v11 v12
def Lf36_15 (a0 : List (List Int)) (k0 : (List Int) → Option ((List Int) × Int)) : Lp (Nat × Int × (List Int) × Int) (Nat) ((List Int) × Int) := ⟨⟨[0, 2, 11, 12], [90011], [(.slot 11, 90011, 3, 1)], []⟩, fun (_, v2, v11, v12) => [.dat (sl_sl_iN a0), .dat (iN v2), .rs 90011 (List.length v11), .dat (iN v12)], fun (_, _, v11, _) => [.row 3 1 (List.map iN v11)], fun (n, v2, v11, v12) => f36_15 a0 k0 n v2 v11 v12, fun (_, v2, _, v12) m0 => [.dat (sl_sl_iN a0), .dat (iN v2), .rs 90011 m0, .dat (iN v12)], fun (_, _, v11, _) _ => [.row 3 1 (List.map iN v11)], fun (_, _, v11, _) => List.length v11, fun _ => rfl, fun _ => rfl⟩
theorem Ef36_15 {a0 k0 n v2 v11 v12} : (Lf36_15 a0 k0).E (n, v2, v11, v12) = f36_15 a0 k0 n v2 v11 v12 := rfl
def f36_c11 (a0 : List (List Int)) (a1 : Int) (a2 : Int) (N : Nat) (v9 : Int) : Option ((List Int) × Int) :=
 (f57 N a2 (0 : Int) (W (v9 - (1 : Int)))).bind fun x2 =>
 bif !x2 then (some ([], (4 : Int)))
 else ((mkS 8 (0 : Int) (W (a1 - (1 : Int))) (W (a1 - (1 : Int)))).bind fun x3 =>
 joinK (f36_c19 a0 N) fun k0 =>
 f36_15 a0 k0 N a2 x3 (W (a1 - (2 : Int))))
def Lf36_c11 (a0 : List (List Int)) (a1 : Int) (a2 : Int) (N : Nat) : Lp (Int) Unit ((List Int) × Int) := lp0 ⟨[0, 1, 2, 9], [], [], []⟩ (fun v9 => [.dat (sl_sl_iN a0), .dat (iN a1), .dat (iN a2), .dat (iN v9)]) (fun _ => []) (fun v9 => f36_c11 a0 a1 a2 N v9)
theorem Ef36_c11 {a0 a1 a2 N v9} : (Lf36_c11 a0 a1 a2 N).E v9 = f36_c11 a0 a1 a2 N v9 := rfl
def f36_8b (r8 : Int → Int → Option ((List Int) × Int)) (a0 : List (List Int)) (a1 : Int) (a2 : Int) (k1 : Int → Option ((List Int) × Int)) (v9 : Int) (v10 : Int) : Option ((List Int) × Int) :=
 bif decide (v10 < a1) then (r8 (W (v9 * (List.length a0 : Int))) (W (v10 + (1 : Int))))
 else (k1 v9)
def f36_8 (a0 : List (List Int)) (a1 : Int) (a2 : Int) (k1 : Int → Option ((List Int) × Int)) : Nat → Int → Int → Option ((List Int) × Int)
  | 0, _, _ => none
  | n + 1, v9, v10 => f36_8b (f36_8 a0 a1 a2 k1 n) a0 a1 a2 k1 v9 v10
def Lf36_8 (a0 : List (List Int)) (a1 : Int) (a2 : Int) (k1 : Int → Option ((List Int) × Int)) : Lp (Nat × Int × Int) Unit ((List Int) × Int) := lp0 ⟨[0, 1, 2, 9, 10], [], [], []⟩ (fun (_, v9, v10) => [.dat (sl_sl_iN a0), .dat (iN a1), .dat (iN a2), .dat (iN v9), .dat (iN v10)]) (fun (_, _, _) => []) (fun (n, v9, v10) => f36_8 a0 a1 a2 k1 n v9 v10)
theorem Ef36_8 {a0 a1 a2 k1 n v9 v10} : (Lf36_8 a0 a1 a2 k1).E (n, v9, v10) = f36_8 a0 a1 a2 k1 n v9 v10 := rfl
def f36_c4 (a0 : List (List Int)) (a1 : Int) (a2 : Int) (N : Nat) (v8 : Int) : Option ((List Int) × Int) :=
 bif decide (¬ v8 = (0 : Int)) then (some ([], v8))
 else (joinK (f36_c11 a0 a1 a2 N) fun k1 =>
 f36_8 a0 a1 a2 k1 N (1 : Int) (1 : Int))
def Lf36_c4 (a0 : List (List Int)) (a1 : Int) (a2 : Int) (N : Nat) : Lp (Int) Unit ((List Int) × Int) := lp0 ⟨[0, 1, 2, 8], [], [], []⟩ (fun v8 => [.dat (sl_sl_iN a0), .dat (iN a1), .dat (iN a2), .dat (iN v8)]) (fun _ => []) (fun v8 => f36_c4 a0 a1 a2 N v8)
theorem Ef36_c4 {a0 a1 a2 N v8} : (Lf36_c4 a0 a1 a2 N).E v8 = f36_c4 a0 a1 a2 N v8 := rfl
def f36 (N : Nat) (a0 : List (List Int)) (a1 : Int) (a2 : Int) : Option ((List Int) × Int) :=
 (f50 N a0).bind fun x1 =>
 joinK (f36_c4 a0 a1 a2 N) fun k2 =>
 bif decide (x1 = (0 : Int)) then ((f57 N a1 (2 : Int) (12 : Int)).bind fun x8 =>
 bif !x8 then (k2 (3 : Int))
 else (k2 x1))
 else (k2 x1)
def G36 (ds : List D) (d : D) : Prop := ∃ (N : Nat) (a0 : List (List Int)) (a1 : Int) (a2 : Int) (r : (List Int) × Int), ds = [sl_sl_iN a0, iN a1, iN a2] ∧ f36 N a0 a1 a2 = some r ∧ d = .tup [sl_iN r.1, iN r.2]
theorem G36.step {N : Nat} {a0 : List (List Int)} {a1 : Int} {a2 : Int} {ρ : Type} {A : ((List Int) × Int) → Option ρ} {q : ρ} {ds : List D} {K : D → Prop} (hd : ds = [sl_sl_iN a0, iN a1, iN a2]) (h : ∀ r, A r = some q → K (.tup [sl_iN r.1, iN r.2])) (hF : (f36 N a0 a1 a2).bind A = some q) : ∃ d, G36 ds d ∧ K d := by
  obtain ⟨r, hr, hA⟩ := bind_some hF
  exact ⟨_, ⟨N, a0, a1, a2, r, hd, hr, rfl⟩, h r hA⟩
set_option maxRecDepth 20000 in
set_option maxHeartbeats 4000000 in
theorem P36 : PureOK Try.prog 36 G36 := by
  refine pure_of_vc (c := mkCtx tyTree [(57, true, lendPg [[0], [0], [0]] G57), (50, true, lendPg [[1]] G50), (24, true, lendPg [[1], [1]] G24)]) rfl tyOK (ctx_lend (callable Try.func57 rfl rfl) P57 (ctx_lend (callable Try.func50 rfl rfl) P50 (ctx_lend (callable Try.func24 rfl rfl) P24 (ctx_nil)))) [[1], [0]] 3 Try.func36 rfl rfl (by decide) (by kernel_rfl) ?_
  rintro ds d ⟨N, a0, a1, a2, r, rfl, hF, rfl⟩ hok
  clear hok
  refine ⟨rfl, ?_⟩
  show vc _ _ _ _ ⟨[(0, .dat (sl_sl_iN a0)), (1, .dat (iN a1)), (2, .dat (iN a2))], []⟩ _
  unfold f36 at hF
  repeat' (first
    | ((with_reducible first | refine q0 _ _ ?_ | refine q1 _ _ _ _ ?_ | refine q2 _ _ _ ?_); clear Q q0 q1 q2)
    | ((with_reducible first | refine seq_op ?hx (fun Q q0 q1 q2 => ?_) | refine seq_op0 ?hx (fun Q q0 q1 q2 => ?_)); (case hx => exact rfl); conv => whnf)
    | ((with_reducible first | refine seq_off ?hx ?_ | refine seq_off0 ?hx ?_ | refine k_blk_out ?hx ?_ | refine vc_condT ?hx ?_); (case hx => exact rfl))
    | ((with_reducible refine seq_id ?_); (first | ((first | refine seq_opK rfl ?hy (fun Q q0 q1 q2 => ?_) | refine seq_opK0 rfl ?hy (fun Q q0 q1 q2 => ?_)); (case hy => first | assumption | exact notT (by assumption) | exact rfl); conv => whnf) | ((first | refine seq_offK rfl ?hy ?_ | refine seq_offK0 rfl ?hy ?_); (case hy => first | assumption | exact notF (by assumption) | exact rfl)) | (revert hF; (with_reducible first | refine seq_opF ?hx ?_ ?_ | refine seq_opF0 ?hx ?_ ?_); (case hx => exact rfl); (intro hc hF Q q0 q1 q2; conv => whnf); rotate_left; (intro hc hF); rotate_right) | (revert hF; (with_reducible first | refine seq_opN ?hx ?_ ?_ | refine seq_opN0 ?hx ?_ ?_); (case hx => exact rfl); (intro hc hF); rotate_left; (intro hc hF Q q0 q1 q2; conv => whnf); rotate_right)))
    | ((with_reducible refine cond_id ?_); (first | ((refine condKT rfl ?hy ?_); (case hy => first | assumption | exact notT (by assumption) | exact rfl)) | ((refine condKF rfl ?hy ?_); (case hy => first | assumption | exact notF (by assumption) | exact rfl)) | (revert hF; (with_reducible refine condF ?hx ?_ ?_); (case hx => exact rfl); all_goals (intro hc hF))))
    | ((with_reducible refine seq_nil ?_); (first | ((with_reducible refine hR _ ?_); clear R hR) | ((with_reducible refine hL _ ?_); clear L hL)))
    | ((with_reducible first | refine int_step ?_ | refine len_step ?_ | refine idx2 (by assumption) ?_ | refine idx3 (by assumption) ?_); conv => whnf)
    | (with_reducible first | refine vc_block ?_ | refine vc_skip ?_ | refine vc_ret ?_ | refine vc_exit ?_ | refine vc_region (fun R hR => ?_) | refine k_seq_ret ?_ | refine k_seq_exit ?_ | refine k_blk ?_ | refine k_blk_ret ?_ | refine k_blk_here ?_ | refine k_loop_ret ?_ | refine k_loop_exit ?_)
    | ((with_reducible refine vc_seqN [19, 11, 4] ?hx ?_); (case hx => exact rfl))
    | (revert hF; (refine Lp.cut2 Lf36_c19 f36_c19 19 rfl rfl ?_ ?_); (intro hF); rotate_left; (rintro v11 hF; dsimp only [Lf36_c19] at hF; unfold f36_c19 at hF); rotate_right)
    | exact Lp.head Ef36_c19 hF _ ⟨_, rfl, rfl, rfl, rfl⟩ (by first | exact rfl | ((try dsimp only [Lf36_c19]); first | assumption | omega | (simp only [List.length_set]; done)))
    | (revert hF; (refine Lp.loop Ef36_15 _ rfl ⟨_, rfl, rfl, rfl, rfl⟩ (by first | exact rfl | ((try dsimp only [Lf36_15]); first | assumption | omega | (simp only [List.length_set]; done))) (fun _ => rfl) ?_); rintro n ⟨v2, v11, v12⟩ hF; dsimp only [Lf36_15, f36_15] at hF; unfold f36_15b at hF)
    | exact Lp.back Ef36_15 hF _ ⟨_, rfl, rfl, rfl, rfl⟩ (by first | exact rfl | ((try dsimp only [Lf36_15]); first | assumption | omega | (simp only [List.length_set]; done)))
    | (revert hF; (refine Lp.cut4 Lf36_c11 f36_c11 11 rfl rfl ?_ ?_); (intro hF); rotate_left; (rintro v9 hF; dsimp only [Lf36_c11] at hF; unfold f36_c11 at hF); rotate_right)
    | exact Lp.head Ef36_c11 hF () ⟨_, rfl, rfl, rfl, rfl⟩ rfl
    | (revert hF; (refine Lp.loop Ef36_8 () rfl ⟨_, rfl, rfl, rfl, rfl⟩ rfl (fun _ => rfl) ?_); rintro n ⟨v9, v10⟩ hF; dsimp only [Lf36_8, f36_8] at hF; unfold f36_8b at hF)
    | exact Lp.back Ef36_8 hF () ⟨_, rfl, rfl, rfl, rfl⟩ rfl
    | (revert hF; (refine Lp.cut4 Lf36_c4 f36_c4 4 rfl rfl ?_ ?_); (intro hF); rotate_left; (rintro v8 hF; dsimp only [Lf36_c4] at hF; unfold f36_c4 at hF); rotate_right)
    | exact Lp.head Ef36_c4 hF () ⟨_, rfl, rfl, rfl, rfl⟩ rfl
    | (revert hF; (with_reducible refine G24.lend ?hx ?_); (case hx => exact rfl); intro v hF; conv => whnf)
    | (revert hF; (with_reducible refine G50.lend ?hx ?_); (case hx => exact rfl); intro v hF; conv => whnf)
    | (revert hF; (with_reducible refine G57.lend ?hx ?_); (case hx => exact rfl); intro v hF; conv => whnf)
    | (revert hF; (refine mkS_row (d := iN) ?hz ?_); (case hz => exact rfl); intro x hF; conv => whnf)
    | (revert hF; (with_reducible refine idx1 ?hn ?_); (case hn => first | exact rfl | exact (List.length_map _) | assumption | omega | simp); intro x hx hF; conv => whnf)
    | ((with_reducible have hG := app_fact hF); clear hF; (first | ((refine app_row hG ?hn ?hs (fun q hF => ?_)); (case hn => first | exact rfl | assumption | omega); (case hs => exact rfl)) | ((refine app_nil (d := iN) hG ?hs (fun q hF => ?_)); (case hs => exact rfl)) | ((refine app_gen (d := iN) hG ?ho ?hn ?hs (fun q hF => ?_)); (case ho => exact rfl); (case hn => exact rfl); (case hs => exact rfl))); clear hG; conv => whnf)
    | ((refine row_all ?hn ?_); (case hn => first | exact rfl | (simp; done) | (simp; omega)); conv => whnf)
    | ((with_reducible refine le_step ?hn ?_); (case hn => first | exact rfl | assumption | omega); conv => whnf)
    | ((with_reducible have hG := setx_fact hF); clear hF; (refine setx_step hG ?hs (fun q hl hF => ?_)); (case hs => exact rfl); clear hG; conv => whnf)
    | ((refine ⟨?hx, ?_⟩); (case hx => exact ⟨rfl, Nat.le_of_ble_eq_true rfl, rfl⟩); conv => whnf)
    | ((with_reducible refine ex_step ?_); conv => whnf)
    | ((with_reducible have hG := chk_fact hF); clear hF; (refine ⟨?hx, ?_⟩); (case hx => (first | exact of_decide_eq_true hG.1 | exact hG.1)); have hF := hG.2; clear hG; conv => whnf)
    | ((with_reducible refine both_T ?hx ?_); (case hx => first | exact rfl | assumption | exact notT (by assumption)); conv => whnf)
    | ((with_reducible refine both_F ?hx ?_); (case hx => first | exact rfl | assumption | exact notF (by assumption)); conv => whnf)
    | (revert hF; (with_reducible refine ite_step ?_ ?_) <;> (intro hc hF; conv => whnf))
    | ((with_reducible refine vc_condF ?hx ?_); (case hx => exact rfl))
    | (show retD _ _ _ _ _ _; conv => whnf)
    | ((refine ⟨?hx, trivial⟩); (case hx => (cases hF; exact rfl)))
    | ((refine ⟨?hx, ?_⟩); (case hx => decide); conv => whnf)
    | with_reducible refine k_seq ?_
    | (have hF : (none : Option _) = some _ := hF; cases hF))
end
end Go.Vc
namespace Go.Vc
open Go.Proofs
set_option linter.unusedVariables false
set_option linter.unnecessarySimpa false
set_option linter.unusedSimpArgs false
section
variable {c : Ctx} {p nid : Nat} {a b : Code} {st : St} {K : Ex → St → Prop}
/- f66: tusche/tuscheref01.coded -/
def f66 (N : Nat) (a0 : List (List Int)) (a1 : List Int) : Option (Int) :=
 (f50 N a0).bind fun x1 =>
 bif decide (x1 = (0 : Int)) then (bif decide ((List.length a1 : Int) < (2 : Int)) then (some ((1 : Int)))
 else ((f60 N a0 a1).bind fun x2 =>
 some (x2)))
 else (some (x1))
def G66 (ds : List D) (d : D) : Prop := ∃ (N : Nat) (a0 : List (List Int)) (a1 : List Int) (r : Int), ds = [sl_sl_iN a0, sl_iN a1] ∧ f66 N a0 a1 = some r ∧ d = iN r
theorem G66.lend {N : Nat} {a0 : List (List Int)} {a1 : List Int} {ρ : Type} {A : Int → Option ρ} {q : ρ} {ds : List D} {K : D → Prop} (hd : ds = [sl_sl_iN a0, sl_iN a1]) (h : ∀ r, A r = some q → K (iN r)) (hF : (f66 N a0 a1).bind A = some q) : ∃ d, (G66 ds d ∧ d.flatB = true) ∧ K d := by
  obtain ⟨r, hr, hA⟩ := bind_some hF
  exact ⟨_, ⟨⟨N, a0, a1, r, hd, hr, rfl⟩, rfl⟩, h r hA⟩
theorem G66.step {N : Nat} {a0 : List (List Int)} {a1 : List Int} {ρ : Type} {A : Int → Option ρ} {q : ρ} {ds : List D} {K : D → Prop} (hd : ds = [sl_sl_iN a0, sl_iN a1]) (h : ∀ r, A r = some q → K (iN r)) (hF : (f66 N a0 a1).bind A = some q) : ∃ d, G66 ds d ∧ K d := by
  obtain ⟨r, hr, hA⟩ := bind_some hF
  exact ⟨_, ⟨N, a0, a1, r, hd, hr, rfl⟩, h r hA⟩
set_option maxRecDepth 20000 in
set_option maxHeartbeats 4000000 in
theorem P66 : PureOK Try.prog 66 G66 := by
  refine pure_of_vc (c := mkCtx tyTree [(60, true, lendPg [[1], [1]] G60), (50, true, lendPg [[1]] G50)]) rfl tyOK (ctx_lend (callable Try.func60 rfl rfl) P60 (ctx_lend (callable Try.func50 rfl rfl) P50 (ctx_nil))) [[0]] 2 Try.func66 rfl rfl (by decide) (by kernel_rfl) ?_
  rintro ds d ⟨N, a0, a1, r, rfl, hF, rfl⟩ hok
  clear hok
  refine ⟨rfl, ?_⟩
  show vc _ _ _ _ ⟨[(0, .dat (sl_sl_iN a0)), (1, .dat (sl_iN a1))], []⟩ _
  unfold f66 at hF
  repeat' (first
    | ((with_reducible first | refine q0 _ _ ?_ | refine q1 _ _ _ _ ?_ | refine q2 _ _ _ ?_); clear Q q0 q1 q2)
    | ((with_reducible first | refine seq_op ?hx (fun Q q0 q1 q2 => ?_)); (case hx => exact rfl); conv => whnf)
    | ((with_reducible first | refine seq_off ?hx ?_ | refine seq_off0 ?hx ?_ | refine k_blk_out ?hx ?_ | refine vc_condT ?hx ?_); (case hx => exact rfl))
    | ((with_reducible refine seq_id ?_); (first | ((first | refine seq_opK rfl ?hy (fun Q q0 q1 q2 => ?_) | refine seq_opK0 rfl ?hy (fun Q q0 q1 q2 => ?_)); (case hy => first | assumption | exact notT (by assumption) | exact rfl); conv => whnf) | ((first | refine seq_offK rfl ?hy ?_ | refine seq_offK0 rfl ?hy ?_); (case hy => first | assumption | exact notF (by assumption) | exact rfl)) | (revert hF; (with_reducible first | refine seq_opF ?hx ?_ ?_ | refine seq_opF0 ?hx ?_ ?_); (case hx => exact rfl); (intro hc hF Q q0 q1 q2; conv => whnf); rotate_left; (intro hc hF); rotate_right) | (revert hF; (with_reducible first | refine seq_opN ?hx ?_ ?_ | refine seq_opN0 ?hx ?_ ?_); (case hx => exact rfl); (intro hc hF); rotate_left; (intro hc hF Q q0 q1 q2; conv => whnf); rotate_right)))
    | ((with_reducible refine cond_id ?_); (first | ((refine condKT rfl ?hy ?_); (case hy => first | assumption | exact notT (by assumption) | exact rfl)) | ((refine condKF rfl ?hy ?_); (case hy => first | assumption | exact notF (by assumption) | exact rfl)) | (revert hF; (with_reducible refine condF ?hx ?_ ?_); (case hx => exact rfl); all_goals (intro hc hF))))
    | ((with_reducible refine seq_nil ?_); (first | ((with_reducible refine hR _ ?_); clear R hR) | ((with_reducible refine hL _ ?_); clear L hL)))
    | ((with_reducible first | refine int_step ?_ | refine len_step ?_); conv => whnf)
    | (with_reducible first | refine vc_block ?_ | refine vc_skip ?_ | refine vc_ret ?_ | refine vc_exit ?_ | refine vc_region (fun R hR => ?_) | refine k_seq_ret ?_ | refine k_seq_exit ?_ | refine k_blk ?_ | refine k_blk_ret ?_ | refine k_blk_here ?_)
    | ((with_reducible refine vc_seqN [] ?hx ?_); (case hx => exact rfl))
    | (revert hF; (with_reducible refine G50.lend ?hx ?_); (case hx => exact rfl); intro v hF; conv => whnf)
    | (revert hF; (with_reducible refine G60.lend ?hx ?_); (case hx => exact rfl); intro v hF; conv => whnf)
    | ((refine row_all ?hn ?_); (case hn => first | exact rfl | (simp; done) | (simp; omega)); conv => whnf)
    | ((with_reducible refine le_step ?hn ?_); (case hn => first | exact rfl | assumption | omega); conv => whnf)
    | ((refine ⟨?hx, ?_⟩); (case hx => exact ⟨rfl, Nat.le_of_ble_eq_true rfl, rfl⟩); conv => whnf)
    | ((with_reducible refine ex_step ?_); conv => whnf)
    | ((with_reducible refine both_T ?hx ?_); (case hx => first | exact rfl | assumption | exact notT (by assumption)); conv => whnf)
    | ((with_reducible refine both_F ?hx ?_); (case hx => first | exact rfl | assumption | exact notF (by assumption)); conv => whnf)
    | (revert hF; (with_reducible refine ite_step ?_ ?_) <;> (intro hc hF; conv => whnf))
    | ((with_reducible refine vc_condF ?hx ?_); (case hx => exact rfl))
    | (show retD _ _ _ _ _ _; conv => whnf)
    | ((refine ⟨?hx, trivial⟩); (case hx => (cases hF; exact rfl)))
    | ((refine ⟨?hx, ?_⟩); (case hx => decide); conv => whnf)
    | with_reducible refine k_seq ?_
    | (have hF : (none : Option _) = some _ := hF; cases hF))
end
end Go.Vc
namespace Go.Vc
open Go.Proofs
set_option linter.unusedVariables false
set_option linter.unnecessarySimpa false
set_option linter.unusedSimpArgs false
section
variable {c : Ctx} {p nid : Nat} {a b : Code} {st : St} {K : Ex → St → Prop}
/- f28: tusche/tuscheref01.Right -/
def f28 (N : Nat) (a0 : List (List Int)) (a1 : List Int) : Option (Int) :=
 (f66 N a0 a1).bind fun x1 =>
 bif decide (x1 = (0 : Int)) then ((f61 N a0 a1).bind fun x2 =>
 bif decide (¬ x2 = (0 : Int)) then (some ((13 : Int)))
 else (some (x1)))
 else (some (x1))
def G28 (ds : List D) (d : D) : Prop := ∃ (N : Nat) (a0 : List (List Int)) (a1 : List Int) (r : Int), ds = [sl_sl_iN a0, sl_iN a1] ∧ f28 N a0 a1 = some r ∧ d = iN r
theorem G28.lend {N : Nat} {a0 : List (List Int)} {a1 : List Int} {ρ : Type} {A : Int → Option ρ} {q : ρ} {ds : List D} {K : D → Prop} (hd : ds = [sl_sl_iN a0, sl_iN a1]) (h : ∀ r, A r = some q → K (iN r)) (hF : (f28 N a0 a1).bind A = some q) : ∃ d, (G28 ds d ∧ d.flatB = true) ∧ K d := by
  obtain ⟨r, hr, hA⟩ := bind_some hF
  exact ⟨_, ⟨⟨N, a0, a1, r, hd, hr, rfl⟩, rfl⟩, h r hA⟩
theorem G28.step {N : Nat} {a0 : List (List Int)} {a1 : List Int} {ρ : Type} {A : Int → Option ρ} {q : ρ} {ds : List D} {K : D → Prop} (hd : ds = [sl_sl_iN a0, sl_iN a1]) (h : ∀ r, A r = some q → K (iN r)) (hF : (f28 N a0 a1).bind A = some q) : ∃ d, G28 ds d ∧ K d := by
  obtain ⟨r, hr, hA⟩ := bind_some hF
  exact ⟨_, ⟨N, a0, a1, r, hd, hr, rfl⟩, h r hA⟩
set_option maxRecDepth 20000 in
set_option maxHeartbeats 4000000 in
theorem P28 : PureOK Try.prog 28 G28 := by
  refine pure_of_vc (c := mkCtx tyTree [(66, true, lendPg [[1], [1]] G66), (61, true, lendPg [[1], [1]] G61)]) rfl tyOK (ctx_lend (callable Try.func66 rfl rfl) P66 (ctx_lend (callable Try.func61 rfl rfl) P61 (ctx_nil))) [[0]] 2 Try.func28 rfl rfl (by decide) (by kernel_rfl) ?_
  rintro ds d ⟨N, a0, a1, r, rfl, hF, rfl⟩ hok
  clear hok
  refine ⟨rfl, ?_⟩
  show vc _ _ _ _ ⟨[(0, .dat (sl_sl_iN a0)), (1, .dat (sl_iN a1))], []⟩ _
  unfold f28 at hF
  repeat' (first
    | ((with_reducible first | refine q0 _ _ ?_ | refine q1 _ _ _ _ ?_ | refine q2 _ _ _ ?_); clear Q q0 q1 q2)
    | ((with_reducible first | refine seq_op ?hx (fun Q q0 q1 q2 => ?_)); (case hx => exact rfl); conv => whnf)
    | ((with_reducible first | refine seq_off ?hx ?_ | refine seq_off0 ?hx ?_ | refine k_blk_out ?hx ?_ | refine vc_condT ?hx ?_); (case hx => exact rfl))
    | ((with_reducible refine seq_id ?_); (first | ((first | refine seq_opK rfl ?hy (fun Q q0 q1 q2 => ?_) | refine seq_opK0 rfl ?hy (fun Q q0 q1 q2 => ?_)); (case hy => first | assumption | exact notT (by assumption) | exact rfl); conv => whnf) | ((first | refine seq_offK rfl ?hy ?_ | refine seq_offK0 rfl ?hy ?_); (case hy => first | assumption | exact notF (by assumption) | exact rfl)) | (revert hF; (with_reducible first | refine seq_opF ?hx ?_ ?_ | refine seq_opF0 ?hx ?_ ?_); (case hx => exact rfl); (intro hc hF Q q0 q1 q2; conv => whnf); rotate_left; (intro hc hF); rotate_right) | (revert hF; (with_reducible first | refine seq_opN ?hx ?_ ?_ | refine seq_opN0 ?hx ?_ ?_); (case hx => exact rfl); (intro hc hF); rotate_left; (intro hc hF Q q0 q1 q2; conv => whnf); rotate_right)))
    | ((with_reducible refine cond_id ?_); (first | ((refine condKT rfl ?hy ?_); (case hy => first | assumption | exact notT (by assumption) | exact rfl)) | ((refine condKF rfl ?hy ?_); (case hy => first | assumption | exact notF (by assumption) | exact rfl)) | (revert hF; (with_reducible refine condF ?hx ?_ ?_); (case hx => exact rfl); all_goals (intro hc hF))))
    | ((with_reducible refine seq_nil ?_); (first | ((with_reducible refine hR _ ?_); clear R hR) | ((with_reducible refine hL _ ?_); clear L hL)))
    | ((with_reducible first | refine int_step ?_); conv => whnf)
    | (with_reducible first | refine vc_block ?_ | refine vc_skip ?_ | refine vc_ret ?_ | refine vc_exit ?_ | refine vc_region (fun R hR => ?_) | refine k_seq_ret ?_ | refine k_seq_exit ?_ | refine k_blk ?_ | refine k_blk_ret ?_ | refine k_blk_here ?_)
    | ((with_reducible refine vc_seqN [] ?hx ?_); (case hx => exact rfl))
    | (revert hF; (with_reducible refine G61.lend ?hx ?_); (case hx => exact rfl); intro v hF; conv => whnf)
    | (revert hF; (with_reducible refine G66.lend ?hx ?_); (case hx => exact rfl); intro v hF; conv => whnf)
    | ((refine row_all ?hn ?_); (case hn => first | exact rfl | (simp; done) | (simp; omega)); conv => whnf)
    | ((with_reducible refine le_step ?hn ?_); (case hn => first | exact rfl | assumption | omega); conv => whnf)
    | ((refine ⟨?hx, ?_⟩); (case hx => exact ⟨rfl, Nat.le_of_ble_eq_true rfl, rfl⟩); conv => whnf)
    | ((with_reducible refine ex_step ?_); conv => whnf)
    | ((with_reducible refine both_T ?hx ?_); (case hx => first | exact rfl | assumption | exact notT (by assumption)); conv => whnf)
    | ((with_reducible refine both_F ?hx ?_); (case hx => first | exact rfl | assumption | exact notF (by assumption)); conv => whnf)
    | (revert hF; (with_reducible refine ite_step ?_ ?_) <;> (intro hc hF; conv => whnf))
    | ((with_reducible refine vc_condF ?hx ?_); (case hx => exact rfl))
    | (show retD _ _ _ _ _ _; conv => whnf)
    | ((refine ⟨?hx, trivial⟩); (case hx => (cases hF; exact rfl)))
    | ((refine ⟨?hx, ?_⟩); (case hx => decide); conv => whnf)
    | with_reducible refine k_seq ?_
    | (have hF : (none : Option _) = some _ := hF; cases hF))
end
end Go.Vc
namespace Go.Vc
open Go.Proofs
set_option linter.unusedVariables false
set_option linter.unnecessarySimpa false
set_option linter.unusedSimpArgs false
section
variable {c : Ctx} {p nid : Nat} {a b : Code} {st : St} {K : Ex → St → Prop}
/- f38: tusche/tuscheref01.Number -/
def f38_c9 (n7 : Int) : Option (Int × Int) :=
 some (n7, (0 : Int))
def Lf38_c9 : Lp (Int) Unit (Int × Int) := lp0 ⟨[7], [], [], []⟩ (fun n7 => [.dat (iN n7)]) (fun _ => []) (fun n7 => f38_c9 n7)
theorem Ef38_c9 {n7} : (Lf38_c9).E n7 = f38_c9 n7 := rfl
def f38_6b (r6 : Int → Int → Option (Int × Int)) (a0 : List (List Int)) (a1 : List Int) (k0 : Int → Option (Int × Int)) (n7 : Int) (i8 : Int) : Option (Int × Int) :=
 bif decide ((W (i8 + (1 : Int))) < (List.length a1 : Int)) then ((ix a1 i8).bind fun x2 =>
 r6 (W ((W (n7 * (List.length a0 : Int))) + x2)) (W (i8 + (1 : Int))))
 else (k0 n7)
def f38_6 (a0 : List (List Int)) (a1 : List Int) (k0 : Int → Option (Int × Int)) : Nat → Int → Int → Option (Int × Int)
  | 0, _, _ => none
  | n + 1, n7, i8 => f38_6b (f38_6 a0 a1 k0 n) a0 a1 k0 n7 i8
def Lf38_6 (a0 : List (List Int)) (a1 : List Int) (k0 : Int → Option (Int × Int)) : Lp (Nat × Int × Int) Unit (Int × Int) := lp0 ⟨[0, 1, 7, 8], [], [], []⟩ (fun (_, n7, i8) => [.dat (sl_sl_iN a0), .dat (sl_iN a1), .dat (iN n7), .dat (iN i8)]) (fun (_, _, _) => []) (fun (n, n7, i8) => f38_6 a0 a1 k0 n n7 i8)
theorem Ef38_6 {a0 a1 k0 n n7 i8} : (Lf38_6 a0 a1 k0).E (n, n7, i8) = f38_6 a0 a1 k0 n n7 i8 := rfl
def f38 (N : Nat) (a0 : List (List Int)) (a1 : List Int) : Option (Int × Int) :=
 (f28 N a0 a1).bind fun x1 =>
 bif decide (¬ x1 = (0 : Int)) then (some ((0 : Int), x1))
 else (joinK f38_c9 fun k0 =>
 f38_6 a0 a1 k0 N (0 : Int) (0 : Int))
def G38 (ds : List D) (d : D) : Prop := ∃ (N : Nat) (a0 : List (List Int)) (a1 : List Int) (r : Int × Int), ds = [sl_sl_iN a0, sl_iN a1] ∧ f38 N a0 a1 = some r ∧ d = .tup [iN r.1, iN r.2]
theorem G38.lend {N : Nat} {a0 : List (List Int)} {a1 : List Int} {ρ : Type} {A : (Int × Int) → Option ρ} {q : ρ} {ds : List D} {K : D → Prop} (hd : ds = [sl_sl_iN a0, sl_iN a1]) (h : ∀ r, A r = some q → K (.tup [iN r.1, iN r.2])) (hF : (f38 N a0 a1).bind A = some q) : ∃ d, (G38 ds d ∧ d.flatB = true) ∧ K d := by
  obtain ⟨r, hr, hA⟩ := bind_some hF
  exact ⟨_, ⟨⟨N, a0, a1, r, hd, hr, rfl⟩, rfl⟩, h r hA⟩
theorem G38.step {N : Nat} {a0 : List (List Int)} {a1 : List Int} {ρ : Type} {A : (Int × Int) → Option ρ} {q : ρ} {ds : List D} {K : D → Prop} (hd : ds = [sl_sl_iN a0, sl_iN a1]) (h : ∀ r, A r = some q → K (.tup [iN r.1, iN r.2])) (hF : (f38 N a0 a1).bind A = some q) : ∃ d, G38 ds d ∧ K d := by
  obtain ⟨r, hr, hA⟩ := bind_some hF
  exact ⟨_, ⟨N, a0, a1, r, hd, hr, rfl⟩, h r hA⟩
set_option maxRecDepth 20000 in
set_option maxHeartbeats 4000000 in
theorem P38 : PureOK Try.prog 38 G38 := by
  refine pure_of_vc (c := mkCtx tyTree [(28, true, lendPg [[1], [1]] G28)]) rfl tyOK (ctx_lend (callable Try.func28 rfl rfl) P28 (ctx_nil)) [[0], [0]] 2 Try.func38 rfl rfl (by decide) (by kernel_rfl) ?_
  rintro ds d ⟨N, a0, a1, r, rfl, hF, rfl⟩ hok
  clear hok
  refine ⟨rfl, ?_⟩
  show vc _ _ _ _ ⟨[(0, .dat (sl_sl_iN a0)), (1, .dat (sl_iN a1))], []⟩ _
  unfold f38 at hF
  repeat' (first
    | ((with_reducible first | refine q0 _ _ ?_ | refine q1 _ _ _ _ ?_ | refine q2 _ _ _ ?_); clear Q q0 q1 q2)
    | ((with_reducible first | refine seq_op ?hx (fun Q q0 q1 q2 => ?_)); (case hx => exact rfl); conv => whnf)
    | ((with_reducible refine cond_id ?_); (first | ((refine condKT rfl ?hy ?_); (case hy => first | assumption | exact notT (by assumption) | exact rfl)) | ((refine condKF rfl ?hy ?_); (case hy => first | assumption | exact notF (by assumption) | exact rfl)) | (revert hF; (with_reducible refine condF ?hx ?_ ?_); (case hx => exact rfl); all_goals (intro hc hF))))
    | ((with_reducible refine seq_nil ?_); (first | ((with_reducible refine hR _ ?_); clear R hR) | ((with_reducible refine hL _ ?_); clear L hL)))
    | ((with_reducible first | refine int_step ?_ | refine len_step ?_ | refine idx2 (by assumption) ?_ | refine idx3 (by assumption) ?_); conv => whnf)
    | (with_reducible first | refine vc_block ?_ | refine vc_skip ?_ | refine vc_ret ?_ | refine vc_exit ?_ | refine vc_region (fun R hR => ?_) | refine k_seq_ret ?_ | refine k_seq_exit ?_ | refine k_blk ?_ | refine k_blk_ret ?_ | refine k_blk_here ?_ | refine k_loop_ret ?_ | refine k_loop_exit ?_)
    | ((with_reducible refine vc_seqN [9] ?hx ?_); (case hx => exact rfl))
    | (revert hF; (refine Lp.cut0 Lf38_c9 f38_c9 9 rfl rfl ?_ ?_); (intro hF); rotate_left; (rintro n7 hF; dsimp only [Lf38_c9] at hF; unfold f38_c9 at hF); rotate_right)
    | exact Lp.head Ef38_c9 hF () ⟨_, rfl, rfl, rfl, rfl⟩ rfl
    | (revert hF; (refine Lp.loop Ef38_6 () rfl ⟨_, rfl, rfl, rfl, rfl⟩ rfl (fun _ => rfl) ?_); rintro n ⟨n7, i8⟩ hF; dsimp only [Lf38_6, f38_6] at hF; unfold f38_6b at hF)
    | exact Lp.back Ef38_6 hF () ⟨_, rfl, rfl, rfl, rfl⟩ rfl
    | (revert hF; (with_reducible refine G28.lend ?hx ?_); (case hx => exact rfl); intro v hF; conv => whnf)
    | ((with_reducible first | refine k_blk_out ?hx ?_ | refine vc_condT ?hx ?_); (case hx => exact rfl))
    | (revert hF; (with_reducible refine idx1 ?hn ?_); (case hn => first | exact rfl | exact (List.length_map _) | assumption | omega | simp); intro x hx hF; conv => whnf)
    | ((refine row_all ?hn ?_); (case hn => first | exact rfl | (simp; done) | (simp; omega)); conv => whnf)
    | ((with_reducible refine le_step ?hn ?_); (case hn => first | exact rfl | assumption | omega); conv => whnf)
    | ((refine ⟨?hx, ?_⟩); (case hx => exact ⟨rfl, Nat.le_of_ble_eq_true rfl, rfl⟩); conv => whnf)
    | ((with_reducible refine ex_step ?_); conv => whnf)
    | ((with_reducible refine both_T ?hx ?_); (case hx => first | exact rfl | assumption | exact notT (by assumption)); conv => whnf)
    | ((with_reducible refine both_F ?hx ?_); (case hx => first | exact rfl | assumption | exact notF (by assumption)); conv => whnf)
    | (revert hF; (with_reducible refine ite_step ?_ ?_) <;> (intro hc hF; conv => whnf))
    | ((with_reducible refine vc_condF ?hx ?_); (case hx => exact rfl))
    | (show retD _ _ _ _ _ _; conv => whnf)
    | ((refine ⟨?hx, trivial⟩); (case hx => (cases hF; exact rfl)))
    | ((refine ⟨?hx, ?_⟩); (case hx => decide); conv => whnf)
    | with_reducible refine k_seq ?_
    | (have hF : (none : Option _) = some _ := hF; cases hF))
end
end Go.Vc
namespace Go.Vc
open Go.Proofs
set_option linter.unusedVariables false
set_option linter.unnecessarySimpa false
set_option linter.unusedSimpArgs false
section
variable {c : Ctx} {p nid : Nat} {a b : Code} {st : St} {K : Ex → St → Prop}
/- f6: tusche/tuschelaw01.SerialNumbers -/
def f6 (N : Nat) (a0 : List (List Int)) (a1 : Int) (a2 : Int) (a3 : List Int) : Option (Bool) :=
 (f20 N a0).bind fun x1 =>
 bif x1 then ((f15 N ).bind fun x2 =>
 some (x2))
 else (bif decide ((40 : Int) < (List.length a3 : Int)) then ((f15 N ).bind fun x3 =>
 some (x3))
 else ((f35 N a0 a1 a2).bind fun x4 =>
 (f36 N a0 a1 a2).bind fun x5 =>
 (f37 N a0 a3).bind fun x6 =>
 (f38 N a0 a3).bind fun x7 =>
 (f34 N x4.1 x5.1).bind fun x8 =>
 bif x8 then (bif decide (x4.2 = x5.2) then (bif decide (x6.1 = x7.1) then (bif decide (x6.2 = x7.2) then ((f15 N ).bind fun x9 =>
 some (x9))
 else (some (false)))
 else (some (false)))
 else (some (false)))
 else (some (false))))
def G6 (ds : List D) (d : D) : Prop := ∃ (N : Nat) (a0 : List (List Int)) (a1 : Int) (a2 : Int) (a3 : List Int) (r : Bool), ds = [sl_sl_iN a0, iN a1, iN a2, sl_iN a3] ∧ f6 N a0 a1 a2 a3 = some r ∧ d = bN r
theorem G6.lend {N : Nat} {a0 : List (List Int)} {a1 : Int} {a2 : Int} {a3 : List Int} {ρ : Type} {A : Bool → Option ρ} {q : ρ} {ds : List D} {K : D → Prop} (hd : ds = [sl_sl_iN a0, iN a1, iN a2, sl_iN a3]) (h : ∀ r, A r = some q → K (bN r)) (hF : (f6 N a0 a1 a2 a3).bind A = some q) : ∃ d, (G6 ds d ∧ d.flatB = true) ∧ K d := by
  obtain ⟨r, hr, hA⟩ := bind_some hF
  exact ⟨_, ⟨⟨N, a0, a1, a2, a3, r, hd, hr, rfl⟩, rfl⟩, h r hA⟩
theorem G6.step {N : Nat} {a0 : List (List Int)} {a1 : Int} {a2 : Int} {a3 : List Int} {ρ : Type} {A : Bool → Option ρ} {q : ρ} {ds : List D} {K : D → Prop} (hd : ds = [sl_sl_iN a0, iN a1, iN a2, sl_iN a3]) (h : ∀ r, A r = some q → K (bN r)) (hF : (f6 N a0 a1 a2 a3).bind A = some q) : ∃ d, G6 ds d ∧ K d := by
  obtain ⟨r, hr, hA⟩ := bind_some hF
  exact ⟨_, ⟨N, a0, a1, a2, a3, r, hd, hr, rfl⟩, h r hA⟩
set_option maxRecDepth 20000 in
set_option maxHeartbeats 4000000 in
theorem P6 : PureOK Try.prog 6 G6 := by
  refine pure_of_vc (c := mkCtx tyTree [(38, true, lendPg [[1], [1]] G38), (37, true, lendPg [[1], [1]] G37), (36, true, purePg [[1], [0], [0]] G36), (35, true, purePg [[1], [0], [0]] G35), (34, true, lendPg [[1], [1]] G34), (20, true, lendPg [[1]] G20), (15, true, lendPg [] G15)]) rfl tyOK (ctx_lend (callable Try.func38 rfl rfl) P38 (ctx_lend (callable Try.func37 rfl rfl) P37 (ctx_cons (callable Try.func36 rfl rfl) P36 (ctx_cons (callable Try.func35 rfl rfl) P35 (ctx_lend (callable Try.func34 rfl rfl) P34 (ctx_lend (callable Try.func20 rfl rfl) P20 (ctx_lend (callable Try.func15 rfl rfl) P15 (ctx_nil)))))))) [[0]] 4 Try.func6 rfl rfl (by decide) (by kernel_rfl) ?_
  rintro ds d ⟨N, a0, a1, a2, a3, r, rfl, hF, rfl⟩ hok
  clear hok
  refine ⟨rfl, ?_⟩
  show vc _ _ _ _ ⟨[(0, .dat (sl_sl_iN a0)), (1, .dat (iN a1)), (2, .dat (iN a2)), (3, .dat (sl_iN a3))], []⟩ _
  unfold f6 at hF
  repeat' (first
    | ((with_reducible first | refine q0 _ _ ?_ | refine q1 _ _ _ _ ?_ | refine q2 _ _ _ ?_); clear Q q0 q1 q2)
    | ((with_reducible first | refine seq_op ?hx (fun Q q0 q1 q2 => ?_)); (case hx => exact rfl); conv => whnf)
    | ((with_reducible first | refine seq_off ?hx ?_ | refine seq_off0 ?hx ?_ | refine k_blk_out ?hx ?_ | refine vc_condT ?hx ?_); (case hx => exact rfl))
    | ((with_reducible refine seq_id ?_); (first | ((first | refine seq_opK rfl ?hy (fun Q q0 q1 q2 => ?_) | refine seq_opK0 rfl ?hy (fun Q q0 q1 q2 => ?_)); (case hy => first | assumption | exact notT (by assumption) | exact rfl); conv => whnf) | ((first | refine seq_offK rfl ?hy ?_ | refine seq_offK0 rfl ?hy ?_); (case hy => first | assumption | exact notF (by assumption) | exact rfl)) | (revert hF; (with_reducible first | refine seq_opF ?hx ?_ ?_ | refine seq_opF0 ?hx ?_ ?_); (case hx => exact rfl); (intro hc hF Q q0 q1 q2; conv => whnf); rotate_left; (intro hc hF); rotate_right) | (revert hF; (with_reducible first | refine seq_opN ?hx ?_ ?_ | refine seq_opN0 ?hx ?_ ?_); (case hx => exact rfl); (intro hc hF); rotate_left; (intro hc hF Q q0 q1 q2; conv => whnf); rotate_right)))
    | ((with_reducible refine cond_id ?_); (first | ((refine condKT rfl ?hy ?_); (case hy => first | assumption | exact notT (by assumption) | exact rfl)) | ((refine condKF rfl ?hy ?_); (case hy => first | assumption | exact notF (by assumption) | exact rfl)) | (revert hF; (with_reducible refine condF ?hx ?_ ?_); (case hx => exact rfl); all_goals (intro hc hF))))
    | ((with_reducible refine seq_nil ?_); (first | ((with_reducible refine hR _ ?_); clear R hR) | ((with_reducible refine hL _ ?_); clear L hL)))
    | ((with_reducible first | refine int_step ?_ | refine len_step ?_); conv => whnf)
    | (with_reducible first | refine vc_block ?_ | refine vc_skip ?_ | refine vc_ret ?_ | refine vc_exit ?_ | refine vc_region (fun R hR => ?_) | refine k_seq_ret ?_ | refine k_seq_exit ?_ | refine k_blk ?_ | refine k_blk_ret ?_ | refine k_blk_here ?_)
    | ((with_reducible refine vc_seqN [] ?hx ?_); (case hx => exact rfl))
    | (revert hF; (with_reducible refine G15.lend ?hx ?_); (case hx => exact rfl); intro v hF; conv => whnf)
    | (revert hF; (with_reducible refine G20.lend ?hx ?_); (case hx => exact rfl); intro v hF; conv => whnf)
    | (revert hF; (with_reducible refine G34.lend ?hx ?_); (case hx => exact rfl); intro v hF; conv => whnf)
    | (revert hF; (with_reducible refine G35.step ?hx ?_); (case hx => exact rfl); intro v hF; conv => whnf)
    | (revert hF; (with_reducible refine G36.step ?hx ?_); (case hx => exact rfl); intro v hF; conv => whnf)
    | (revert hF; (with_reducible refine G37.lend ?hx ?_); (case hx => exact rfl); intro v hF; conv => whnf)
    | (revert hF; (with_reducible refine G38.lend ?hx ?_); (case hx => exact rfl); intro v hF; conv => whnf)
    | ((refine row_all ?hn ?_); (case hn => first | exact rfl | (simp; done) | (simp; omega)); conv => whnf)
    | ((with_reducible refine le_step ?hn ?_); (case hn => first | exact rfl | assumption | omega); conv => whnf)
    | ((refine ⟨?hx, ?_⟩); (case hx => exact ⟨rfl, Nat.le_of_ble_eq_true rfl, rfl⟩); conv => whnf)
    | ((with_reducible refine ex_step ?_); conv => whnf)
    | ((with_reducible refine both_T ?hx ?_); (case hx => first | exact rfl | assumption | exact notT (by assumption)); conv => whnf)
    | ((with_reducible refine both_F ?hx ?_); (case hx => first | exact rfl | assumption | exact notF (by assumption)); conv => whnf)
    | (revert hF; (with_reducible refine ite_step ?_ ?_) <;> (intro hc hF; conv => whnf))
    | ((with_reducible refine vc_condF ?hx ?_); (case hx => exact rfl))
    | (show retD _ _ _ _ _ _; conv => whnf)
    | ((refine ⟨?hx, trivial⟩); (case hx => (cases hF; exact rfl)))
    | ((refine ⟨?hx, ?_⟩); (case hx => decide); conv => whnf)
    | with_reducible refine k_seq ?_
    | (have hF : (none : Option _) = some _ := hF; cases hF))
end
end Go.Vc
/-
  PLAIN LOOPS: loops that leave early, loops that gather.
-/
namespace Go.Vc
set_option linter.unusedVariables false
set_option linter.unnecessarySimpa false
set_option linter.unusedSimpArgs false
section
variable {α β σ : Type}
theorem iffD {α : Type} {p q : Prop} {dp : Decidable p} {dq : Decidable q} {a b : α} (h : p ↔ q) : @ite α p dp a b = @ite α q dq a b := by
  by_cases hp : p
  · rw [if_pos hp, if_pos (h.1 hp)]
  · rw [if_neg hp, if_neg fun hq => hp (h.2 hq)]
open Classical in
/-- a loop over indexes that leaves with 'e' at the first one that has a property -/
theorem loop_ex {F : Nat → Int → Option β} {k0 e : Option β} {p : Nat → Prop} (len : Nat)
    (hs : ∀ n i, i < len → F (n + 1) (i : Int) = if p i then e else F n ((i + 1 : Nat) : Int)) (he : ∀ n, F (n + 1) (len : Int) = k0) :
    ∀ n i, i ≤ len → len - i < n → F n (i : Int) = if (∃ j, i ≤ j ∧ j < len ∧ p j) then e else k0 := by
  intro n
  induction n with
  | zero => intro i _ h; omega
  | succ n ih =>
    intro i hi hn
    by_cases h : i = len
    · subst h
      rw [he, if_neg]
      rintro ⟨j, h1, h2, _⟩; omega
    · rw [hs n i (by omega)]
      by_cases hp : p i
      · rw [if_pos hp, if_pos ⟨i, Nat.le_refl _, by omega, hp⟩]
      · rw [if_neg hp, ih (i + 1) (by omega) (by omega)]
        by_cases hx : ∃ j, i + 1 ≤ j ∧ j < len ∧ p j
        · obtain ⟨j, h1, h2, h3⟩ := hx
          rw [if_pos ⟨j, h1, h2, h3⟩, if_pos ⟨j, by omega, h2, h3⟩]
        · rw [if_neg hx, if_neg]
          rintro ⟨j, h1, h2, h3⟩
          by_cases hj : j = i
          · subst hj; exact hp h3
          · exact hx ⟨j, by omega, h2, h3⟩
open Classical in
theorem loop_ex0 {F : Nat → Int → Option β} {k0 e : Option β} {p : Nat → Prop} (len : Nat)
    (hs : ∀ n i, i < len → F (n + 1) (i : Int) = if p i then e else F n ((i + 1 : Nat) : Int)) (he : ∀ n, F (n + 1) (len : Int) = k0) {n : Nat} (hn : len < n) :
    F n 0 = if (∃ j, j < len ∧ p j) then e else k0 := by
  have := loop_ex len hs he n 0 (by omega) (by omega)
  rw [show ((0 : Nat) : Int) = 0 from rfl] at this
  rw [this]
  by_cases h : ∃ j, j < len ∧ p j
  · obtain ⟨j, h1, h2⟩ := h
    rw [if_pos ⟨j, by omega, h1, h2⟩, if_pos ⟨j, h1, h2⟩]
  · rw [if_neg h, if_neg]
    rintro ⟨j, _, h1, h2⟩; exact h ⟨j, h1, h2⟩
/-- a loop over indexes that gathers, under an invariant -/
theorem loop_inv {F : Nat → σ → Int → Option β} {k : σ → Option β} (g : σ → Nat → σ) (Inv : Nat → σ → Prop) (len : Nat)
    (hs : ∀ n s i, i < len → Inv i s → F (n + 1) s (i : Int) = F n (g s i) ((i + 1 : Nat) : Int)) (hi : ∀ s i, i < len → Inv i s → Inv (i + 1) (g s i)) (he : ∀ n s, F (n + 1) s (len : Int) = k s) :
    ∀ n i s, i ≤ len → len - i < n → Inv i s → F n s (i : Int) = k ((List.range' i (len - i)).foldl g s) ∧ Inv len ((List.range' i (len - i)).foldl g s) := by
  intro n
  induction n with
  | zero => intro i s _ h; omega
  | succ n ih =>
    intro i s hl hn h0
    by_cases h : i = len
    · subst h
      rw [he, Nat.sub_self]; exact ⟨rfl, h0⟩
    · rw [hs n s i (by omega) h0]
      obtain ⟨h1, h2⟩ := ih (i + 1) (g s i) (by omega) (by omega) (hi s i (by omega) h0)
      rw [show len - i = (len - (i + 1)) + 1 by omega, List.range'_succ]
      exact ⟨h1, h2⟩
theorem loop_inv0 {F : Nat → σ → Int → Option β} {k : σ → Option β} (g : σ → Nat → σ) (Inv : Nat → σ → Prop) (len : Nat)
    (hs : ∀ n s i, i < len → Inv i s → F (n + 1) s (i : Int) = F n (g s i) ((i + 1 : Nat) : Int)) (hi : ∀ s i, i < len → Inv i s → Inv (i + 1) (g s i)) (he : ∀ n s, F (n + 1) s (len : Int) = k s)
    {n : Nat} {s : σ} (hn : len < n) (h0 : Inv 0 s) : F n s 0 = k ((List.range len).foldl g s) ∧ Inv len ((List.range len).foldl g s) := by
  have := loop_inv g Inv len hs hi he n 0 s (by omega) (by omega) h0
  rw [List.range_eq_range']
  simpa using this
/-- a loop that counts up without end till a property holds: a bound on its place is known -/
theorem loop_find {F : Nat → Int → Option β} {k : Nat → Option β} {p : Nat → Prop} (m : Nat) (hm : p m)
    (hs : ∀ n i, i ≤ m → ¬ p i → F (n + 1) (i : Int) = F n ((i + 1 : Nat) : Int)) (he : ∀ n i, i ≤ m → p i → F (n + 1) (i : Int) = k i) :
    ∀ n i, i ≤ m → m - i < n → ∃ j, i ≤ j ∧ j ≤ m ∧ p j ∧ (∀ q, i ≤ q → q < j → ¬ p q) ∧ F n (i : Int) = k j := by
  intro n
  induction n with
  | zero => intro i _ h; omega
  | succ n ih =>
    intro i hi hn
    by_cases h : p i
    · exact ⟨i, Nat.le_refl _, hi, h, fun q h1 h2 => by omega, he n i hi h⟩
    · have : i ≠ m := fun hh => h (hh ▸ hm)
      obtain ⟨j, h1, h2, h3, h4, h5⟩ := ih (i + 1) (by omega) (by omega)
      refine ⟨j, by omega, h2, h3, fun q h6 h7 => ?_, (hs n i hi h).trans h5⟩
      by_cases hq : q = i
      · subst hq; exact h
      · exact h4 q (by omega) h7
end
end Go.Vc
namespace Go.Vc
open Go.Proofs
set_option linter.unusedVariables false
set_option linter.unnecessarySimpa false
set_option linter.unusedSimpArgs false
def f17_c10 (n4 : Int) : Option (Int × Bool) :=
 some (n4, true)
def f17_5b (r5 : Int → Int → Option (Int × Bool)) (a0 : ByteArray) (k0 : Int → Option (Int × Bool)) (n4 : Int) (i5 : Int) : Option (Int × Bool) :=
 bif decide (i5 < (ByteArray.size a0 : Int)) then ((idxS a0 i5).bind fun x1 =>
 bif decide (x1 < (48 : Int)) then (some ((0 : Int), false))
 else ((idxS a0 i5).bind fun x2 =>
 bif decide ((57 : Int) < x2) then (some ((0 : Int), false))
 else ((idxS a0 i5).bind fun x3 =>
 r5 (W ((W ((10 : Int) * n4)) + (Wk .u8 (x3 - (48 : Int))))) (W (i5 + (1 : Int))))))
 else (k0 n4)
def f17_5 (a0 : ByteArray) (k0 : Int → Option (Int × Bool)) : Nat → Int → Int → Option (Int × Bool)
  | 0, _, _ => none
  | n + 1, n4, i5 => f17_5b (f17_5 a0 k0 n) a0 k0 n4 i5
def f17_c3 (a0 : ByteArray) (N : Nat) : Option (Int × Bool) :=
 joinK f17_c10 fun k0 =>
 f17_5 a0 k0 N (0 : Int) (0 : Int)
def f17 (N : Nat) (a0 : ByteArray) : Option (Int × Bool) :=
 joinK (f17_c3 a0 N) fun k1 =>
 (f57 N (ByteArray.size a0 : Int) (1 : Int) (8 : Int)).bind fun x4 =>
 bif !x4 then (some ((0 : Int), false))
 else ((idxS a0 (0 : Int)).bind fun x5 =>
 bif decide (x5 = (48 : Int)) then (bif decide ((1 : Int) < (ByteArray.size a0 : Int)) then (some ((0 : Int), false))
 else k1)
 else k1)
end Go.Vc
namespace Go.Vc
open Go.Proofs
set_option linter.unusedVariables false
set_option linter.unnecessarySimpa false
set_option linter.unusedSimpArgs false
def f19_c8 : Option (Bool) :=
 some (true)
def f19_4b (r4 : Int → Option (Bool)) (a0 : ByteArray) (k0 : Option (Bool)) (i3 : Int) : Option (Bool) :=
 bif decide (i3 < (ByteArray.size a0 : Int)) then ((idxS a0 i3).bind fun x2 =>
 bif decide (x2 < (97 : Int)) then (some (false))
 else ((idxS a0 i3).bind fun x3 =>
 bif decide ((122 : Int) < x3) then (some (false))
 else (r4 (W (i3 + (1 : Int))))))
 else k0
def f19_4 (a0 : ByteArray) (k0 : Option (Bool)) : Nat → Int → Option (Bool)
  | 0, _ => none
  | n + 1, i3 => f19_4b (f19_4 a0 k0 n) a0 k0 i3
def f19 (N : Nat) (a0 : ByteArray) : Option (Bool) :=
 (f57 N (ByteArray.size a0 : Int) (1 : Int) (9 : Int)).bind fun x1 =>
 bif !x1 then (some (false))
 else (joinK f19_c8 fun k0 =>
 f19_4 a0 k0 N (0 : Int))
end Go.Vc
namespace Go.Vc
open Go.Proofs
set_option linter.unusedVariables false
set_option linter.unnecessarySimpa false
set_option linter.unusedSimpArgs false
def f3 (N : Nat) (a0 : ByteArray) : Option (Bool) :=
 bif decide ((40 : Int) < (ByteArray.size a0 : Int)) then ((f15 N ).bind fun x1 =>
 some (x1))
 else ((f16 N a0).bind fun x2 =>
 (f17 N a0).bind fun x3 =>
 bif decide (x2.1 = x3.1) then (bif (x2.2 == x3.2) then ((f18 N a0).bind fun x4 =>
 (f19 N a0).bind fun x5 =>
 bif (x4 == x5) then ((f15 N ).bind fun x6 =>
 some (x6))
 else (some (false)))
 else (some (false)))
 else (some (false)))
end Go.Vc
/-
  PLAIN LAWS OF SERIAL, 1: names and values.
-/
namespace Go.Vc
set_option linter.unusedVariables false
set_option linter.unnecessarySimpa false
set_option linter.unusedSimpArgs false
set_option linter.unusedSimpArgs false

theorem iffC {α : Type} {p q : Prop} [Decidable p] [Decidable q] {a b : α} (h : p ↔ q) : (if p then a else b) = if q then a else b := by
  by_cases hp : p
  · rw [if_pos hp, if_pos (h.1 hp)]
  · rw [if_neg hp, if_neg fun hq => hp (h.2 hq)]
theorem f15_any (n : Nat) : f15 (n + 60) = some true := by kernel_rfl
theorem f57_eq {N : Nat} {a b c : Int} : f57 N a b c = some (decide (b ≤ a ∧ a ≤ c)) := by
  unfold f57
  by_cases h : b ≤ a <;> simp [h]
theorem f64_eq {N : Nat} {a b c : Int} : f64 N a b c = some (decide (a ≤ b ∧ b ≤ c)) := by
  unfold f64
  by_cases h : a ≤ b <;> simp [h]
theorem byteAt_nat (s : ByteArray) (i : Nat) (h : i < s.size) : byteAt s i = (s[i].toNat : Int) := (str_get s i h).2.symm
theorem rune_lo {s : ByteArray} {p : Nat} (h : p < s.size) (hb : byteAt s p < 128) : runeAt s p = (byteAt s p, p + 1) := by
  rw [byteAt_nat s p h] at hb ⊢
  unfold runeAt
  rw [decode_ascii s p h (by omega)]
theorem rune_hi {s : ByteArray} {p : Nat} (h : p < s.size) (hb : 128 ≤ byteAt s p) : 128 ≤ (runeAt s p).1 := by
  rw [byteAt_nat s p h] at hb
  have := (decode_high s p h (by omega)).1
  show (128 : Int) ≤ ((Utf8.decode s p).1 : Int)
  omega
theorem byteAt_rng (s : ByteArray) (i : Nat) : 0 ≤ byteAt s i ∧ byteAt s i ≤ 255 := by
  have := byteAt_in s i
  simpa [IntKind.min, IntKind.max, IntKind.signed, IntKind.bits] using this
theorem idxS_nat {s : ByteArray} {i : Nat} (h : i < s.size) : idxS s (i : Int) = some (byteAt s i) := by
  unfold idxS
  rw [if_pos ⟨by omega, by omega⟩]; rfl
/-- all bytes from a place on are between two numbers -/
def allFrom (lo hi : Int) (s : ByteArray) (p : Nat) : Prop := ∀ i, p ≤ i → i < s.size → lo ≤ byteAt s i ∧ byteAt s i ≤ hi
theorem allFrom_step {lo hi : Int} {s : ByteArray} {p : Nat} (h : p < s.size) : allFrom lo hi s p ↔ (lo ≤ byteAt s p ∧ byteAt s p ≤ hi) ∧ allFrom lo hi s (p + 1) := by
  constructor
  · intro ha
    exact ⟨ha p (Nat.le_refl _) h, fun i h1 h2 => ha i (by omega) h2⟩
  · rintro ⟨h1, h2⟩ i h3 h4
    by_cases he : i = p
    · subst he; exact h1
    · exact h2 i (by omega) h4
theorem allFrom_end {lo hi : Int} {s : ByteArray} {p : Nat} (h : s.size ≤ p) : allFrom lo hi s p := fun i h1 h2 => by omega
open Classical in
theorem f18_loop {s : ByteArray} {k0 : Option Bool} : ∀ (n p : Nat), s.size - p < n → p ≤ s.size → f18_2 s k0 n p = if allFrom 97 122 s p then k0 else some false := by
  intro n
  induction n with
  | zero => intro p h; omega
  | succ n ih =>
    intro p hn hp
    unfold f18_2 f18_2b
    by_cases h : p < s.size
    · simp only [h, decide_true, cond_true, Option.bind_some]
      rw [iffC (allFrom_step h)]
      by_cases hb : byteAt s p < 128
      · rw [rune_lo h hb]
        by_cases h1 : byteAt s p < 97
        · simp only [h1, decide_true, cond_true]
          rw [if_neg (by rintro ⟨⟨a, _⟩, _⟩; omega)]
        · simp only [h1, decide_false, cond_false]
          by_cases h2 : 122 < byteAt s p
          · simp only [h2, decide_true, cond_true]
            rw [if_neg (by rintro ⟨⟨_, a⟩, _⟩; omega)]
          · simp only [h2, decide_false, cond_false]
            rw [ih (p + 1) (by omega) (by omega)]
            refine iffC ?_
            exact ⟨fun h => ⟨⟨by omega, by omega⟩, h⟩, fun h => h.2⟩
      · have := rune_hi h (by omega)
        simp only [show ¬ (runeAt s p).1 < 97 by omega, show (122 : Int) < (runeAt s p).1 by omega, decide_false, decide_true, cond_false, cond_true]
        rw [if_neg (by rintro ⟨⟨_, a⟩, _⟩; omega)]
    · simp only [h, decide_false, cond_false]
      rw [if_pos (allFrom_end (by omega))]
open Classical in
theorem f19_loop {s : ByteArray} {k0 : Option Bool} (hsz : s.size ≤ 1000000) : ∀ (n p : Nat), s.size - p < n → p ≤ s.size → f19_4 s k0 n (p : Int) = if allFrom 97 122 s p then k0 else some false := by
  intro n
  induction n with
  | zero => intro p h; omega
  | succ n ih =>
    intro p hn hp
    unfold f19_4 f19_4b
    by_cases h : p < s.size
    · simp only [show (p : Int) < (s.size : Int) by omega, decide_true, cond_true, idxS_nat h, Option.bind_some]
      rw [iffC (allFrom_step h)]
      by_cases h1 : byteAt s p < 97
      · simp only [h1, decide_true, cond_true]
        rw [if_neg (by rintro ⟨⟨a, _⟩, _⟩; omega)]
      · simp only [h1, decide_false, cond_false]
        by_cases h2 : 122 < byteAt s p
        · simp only [h2, decide_true, cond_true]
          rw [if_neg (by rintro ⟨⟨_, a⟩, _⟩; omega)]
        · simp only [h2, decide_false, cond_false]
          rw [W_nat (by omega), ih (p + 1) (by omega) (by omega)]
          refine iffC ?_
          exact ⟨fun h => ⟨⟨by omega, by omega⟩, h⟩, fun h => h.2⟩
    · simp only [show ¬ (p : Int) < (s.size : Int) by omega, decide_false, cond_false]
      rw [if_pos (allFrom_end (by omega))]
theorem emptyS_iff {s : ByteArray} : s = emptyS ↔ s.size = 0 := by
  constructor
  · rintro rfl; rfl
  · intro h
    apply ByteArray.ext
    have : s.data.size = 0 := h
    exact Array.eq_empty_of_size_eq_zero this
open Classical in
/-- names -/
theorem names_eq {N : Nat} {s : ByteArray} (hs : s.size ≤ 40) (hN : 50 ≤ N) : ∃ b, f18 N s = some b ∧ f19 N s = some b := by
  refine ⟨decide (allFrom 97 122 s 0 ∧ 1 ≤ s.size ∧ s.size ≤ 9), ?_, ?_⟩
  · unfold f18; simp only [joinK]
    rw [f18_loop N 0 (by omega) (by omega)]
    unfold f18_c6
    by_cases h : allFrom 97 122 s 0
    · by_cases h0 : s = emptyS
      · have := emptyS_iff.1 h0
        simp [h, h0]; subst h0; simp [emptyS, ByteArray.size] 
      · have : s.size ≠ 0 := fun hh => h0 (emptyS_iff.2 hh)
        have h1 : 1 ≤ s.size := by omega
        simp [h, h0, h1]
        omega
    · simp [h]
  · unfold f19
    rw [f57_eq]
    simp only [Option.bind_some]
    by_cases h1 : 1 ≤ s.size ∧ s.size ≤ 9
    · rw [show decide ((1 : Int) ≤ (s.size : Int) ∧ (s.size : Int) ≤ 9) = true by simp; omega]
      simp only [Bool.not_true, cond_false]
      simp only [joinK]
      rw [show (0 : Int) = ((0 : Nat) : Int) from rfl, f19_loop (s := s) (by omega) N 0 (by omega) (by omega)]
      unfold f19_c8
      by_cases h : allFrom 97 122 s 0 <;> simp [h, h1]
    · rw [show decide ((1 : Int) ≤ (s.size : Int) ∧ (s.size : Int) ≤ 9) = false by simp; omega]
      simp only [Bool.not_false, cond_true]
      simp; omega
/-- the number that bytes from a place on stand for -/
def valFrom (s : ByteArray) : Nat → Nat → Int → Int
  | 0, _, n => n
  | m + 1, p, n => valFrom s m (p + 1) (10 * n + (byteAt s p - 48))
open Classical in
theorem f16_loop {s : ByteArray} {k0 : Int → Option (Int × Bool)} : ∀ (n p m : Nat) (v : Int), m < n → p + m = s.size → 0 ≤ v → v < 10 ^ (8 - m) → m ≤ 8 → f16_4 s k0 n v p = if allFrom 48 57 s p then k0 (valFrom s m p v) else some (0, false) := by
  intro n
  induction n with
  | zero => intro p m v h; omega
  | succ n ih =>
    intro p m v hn hp hv hv2 hm
    unfold f16_4 f16_4b
    by_cases h : p < s.size
    · obtain ⟨m, rfl⟩ : ∃ q, m = q + 1 := ⟨m - 1, by omega⟩
      simp only [h, decide_true, cond_true, Option.bind_some]
      rw [iffC (allFrom_step h)]
      by_cases hb : byteAt s p < 128
      · rw [rune_lo h hb]
        by_cases h1 : byteAt s p < 48
        · simp only [h1, decide_true, cond_true]
          rw [if_neg (by rintro ⟨⟨a, _⟩, _⟩; omega)]
        · simp only [h1, decide_false, cond_false]
          by_cases h2 : 57 < byteAt s p
          · simp only [h2, decide_true, cond_true]
            rw [if_neg (by rintro ⟨⟨_, a⟩, _⟩; omega)]
          · simp only [h2, decide_false, cond_false]
            have hp8 : (10 : Int) ^ (8 - m) = 10 * 10 ^ (8 - (m + 1)) := by
              rw [show 8 - m = (8 - (m + 1)) + 1 by omega, Int.pow_succ]; omega
            have hle : (10 : Int) ^ (8 - m) ≤ 10 ^ 8 := by
              have : (10 : Nat) ^ (8 - m) ≤ 10 ^ 8 := Nat.pow_le_pow_right (by omega) (by omega)
              exact_mod_cast this
            have e1 : Wk .i32 (byteAt s p - 48) = byteAt s p - 48 := Wk_of (by simp [IntKind.min, IntKind.max, IntKind.signed, IntKind.bits]; omega)
            rw [e1, W_of (n := 10 * v) (by omega) (by omega), W_of (by omega) (by omega), ih (p + 1) m _ (by omega) (by omega) (by omega) (by omega) (by omega)]
            refine iffC ?_
            exact ⟨fun h => ⟨⟨by omega, by omega⟩, h⟩, fun h => h.2⟩
      · have := rune_hi h (by omega)
        simp only [show ¬ (runeAt s p).1 < 48 by omega, show (57 : Int) < (runeAt s p).1 by omega, decide_false, decide_true, cond_false, cond_true]
        rw [if_neg (by rintro ⟨⟨_, a⟩, _⟩; omega)]
    · have : m = 0 := by omega
      subst this
      simp only [h, decide_false, cond_false]
      rw [if_pos (allFrom_end (by omega))]; rfl
open Classical in
theorem f17_loop {s : ByteArray} {k0 : Int → Option (Int × Bool)} : ∀ (n p m : Nat) (v : Int), m < n → p + m = s.size → 0 ≤ v → v < 10 ^ (8 - m) → m ≤ 8 → s.size ≤ 8 → f17_5 s k0 n v (p : Int) = if allFrom 48 57 s p then k0 (valFrom s m p v) else some (0, false) := by
  intro n
  induction n with
  | zero => intro p m v h; omega
  | succ n ih =>
    intro p m v hn hp hv hv2 hm hp8
    unfold f17_5 f17_5b
    by_cases h : p < s.size
    · obtain ⟨m, rfl⟩ : ∃ q, m = q + 1 := ⟨m - 1, by omega⟩
      simp only [show (p : Int) < (s.size : Int) by omega, decide_true, cond_true, idxS_nat h, Option.bind_some]
      rw [iffC (allFrom_step h)]
      by_cases h1 : byteAt s p < 48
      · simp only [h1, decide_true, cond_true]
        rw [if_neg (by rintro ⟨⟨a, _⟩, _⟩; omega)]
      · simp only [h1, decide_false, cond_false]
        by_cases h2 : 57 < byteAt s p
        · simp only [h2, decide_true, cond_true]
          rw [if_neg (by rintro ⟨⟨_, a⟩, _⟩; omega)]
        · simp only [h2, decide_false, cond_false]
          have hp8' : (10 : Int) ^ (8 - m) = 10 * 10 ^ (8 - (m + 1)) := by
            rw [show 8 - m = (8 - (m + 1)) + 1 by omega, Int.pow_succ]; omega
          have hle : (10 : Int) ^ (8 - m) ≤ 10 ^ 8 := by
            have : (10 : Nat) ^ (8 - m) ≤ 10 ^ 8 := Nat.pow_le_pow_right (by omega) (by omega)
            exact_mod_cast this
          have e1 : Wk .u8 (byteAt s p - 48) = byteAt s p - 48 := Wk_of (by simp [IntKind.min, IntKind.max, IntKind.signed, IntKind.bits]; omega)
          rw [e1, W_of (n := 10 * v) (by omega) (by omega), W_of (n := 10 * v + _) (by omega) (by omega), W_nat (by omega), ih (p + 1) m _ (by omega) (by omega) (by omega) (by omega) (by omega) hp8]
          refine iffC ?_
          exact ⟨fun h => ⟨⟨by omega, by omega⟩, h⟩, fun h => h.2⟩
    · have : m = 0 := by omega
      subst this
      simp only [show ¬ (p : Int) < (s.size : Int) by omega, decide_false, cond_false]
      rw [if_pos (allFrom_end (by omega))]; rfl
theorem strC_one {s : ByteArray} : s = strC [48] ↔ s.size = 1 ∧ byteAt s 0 = 48 := by
  constructor
  · rintro rfl; exact ⟨rfl, rfl⟩
  · rintro ⟨h1, h2⟩
    obtain ⟨⟨l⟩⟩ := s
    match l, h1 with
    | [b], _ =>
      have : b.toNat = 48 := by
        have : ((b.toNat : Nat) : Int) = 48 := h2
        omega
      have hb : b = 48 := UInt8.toNat_inj.1 this
      subst hb; rfl
open Classical in
theorem values_eq {N : Nat} {s : ByteArray} (hs : s.size ≤ 40) (hN : 50 ≤ N) : ∃ r, f16 N s = some r ∧ f17 N s = some r := by
  by_cases h0 : 1 ≤ s.size ∧ s.size ≤ 8
  · by_cases h1 : byteAt s 0 = 48 ∧ 1 < s.size
    · refine ⟨(0, false), ?_, ?_⟩
      · unfold f16; simp only [joinK]
        have e1 : ¬ s = emptyS := fun h => by have := emptyS_iff.1 h; omega
        have e2 : ¬ s = strC [48] := fun h => by have := (strC_one.1 h).1; omega
        simp only [e1, decide_false, cond_false, show ¬ (8 : Int) < (s.size : Int) by omega]
        rw [show (0 : Int) = ((0 : Nat) : Int) from rfl, idxS_nat (by omega)]
        simp [h1.1, e2]
      · unfold f17; simp only [joinK]
        rw [f57_eq, show decide ((1 : Int) ≤ (s.size : Int) ∧ (s.size : Int) ≤ 8) = true by simp; omega]
        simp only [Option.bind_some, Bool.not_true, cond_false]
        rw [show (0 : Int) = ((0 : Nat) : Int) from rfl, idxS_nat (by omega)]
        simp [h1.1, show (1 : Int) < (s.size : Int) by omega]
    · refine ⟨if allFrom 48 57 s 0 then (valFrom s s.size 0 0, true) else (0, false), ?_, ?_⟩
      · unfold f16; simp only [joinK]
        have e1 : ¬ s = emptyS := fun h => by have := emptyS_iff.1 h; omega
        simp only [e1, decide_false, cond_false, show ¬ (8 : Int) < (s.size : Int) by omega]
        rw [show (0 : Int) = ((0 : Nat) : Int) from rfl, idxS_nat (by omega)]
        simp only [Option.bind_some]
        have key : f16_c3 s N = some (if allFrom 48 57 s 0 then (valFrom s s.size 0 0, true) else (0, false)) := by
          unfold f16_c3; simp only [joinK]
          rw [f16_loop N 0 s.size 0 (by omega) (by omega) (by omega) (by
            have : (0 : Int) < 10 ^ (8 - s.size) := Int.pow_pos (by omega)
            exact this) (by omega)]
          unfold f16_c9
          split <;> rfl
        rw [key]
        by_cases h2 : byteAt s 0 = 48
        · have e2 : s = strC [48] := strC_one.2 ⟨by omega, h2⟩
          simp [h2, e2]
        · simp [h2]
      · unfold f17; simp only [joinK]
        rw [f57_eq, show decide ((1 : Int) ≤ (s.size : Int) ∧ (s.size : Int) ≤ 8) = true by simp; omega]
        simp only [Option.bind_some, Bool.not_true, cond_false]
        rw [show (0 : Int) = ((0 : Nat) : Int) from rfl, idxS_nat (by omega)]
        simp only [Option.bind_some]
        have key : f17_c3 s N = some (if allFrom 48 57 s 0 then (valFrom s s.size 0 0, true) else (0, false)) := by
          unfold f17_c3; simp only [joinK]
          have := f17_loop (s := s) (k0 := f17_c10) N 0 s.size 0 (by omega) (by omega) (by omega) (by
            have : (0 : Int) < 10 ^ (8 - s.size) := Int.pow_pos (by omega)
            exact this) (by omega) (by omega)
          rw [show ((0 : Nat) : Int) = 0 from rfl] at this
          rw [this]
          unfold f17_c10
          split <;> rfl
        rw [key]
        by_cases h2 : byteAt s 0 = 48
        · simp [h2, show ¬ (1 : Int) < (s.size : Int) by omega]
        · simp [h2]
  · refine ⟨(0, false), ?_, ?_⟩
    · unfold f16; simp only [joinK]
      by_cases e1 : s = emptyS
      · simp [e1]
      · have : s.size ≠ 0 := fun hh => e1 (emptyS_iff.2 hh)
        simp [e1, show (8 : Int) < (s.size : Int) by omega]
    · unfold f17; simp only [joinK]
      rw [f57_eq, show decide ((1 : Int) ≤ (s.size : Int) ∧ (s.size : Int) ≤ 8) = false by simp; omega]
      rfl
theorem f3_true {s : ByteArray} (N : Nat) : f3 (N + 60) s = some true := by
  unfold f3
  rw [f15_any]
  by_cases h : (40 : Int) < (s.size : Int)
  · simp [h]
  · obtain ⟨r, h1, h2⟩ := values_eq (N := N + 60) (s := s) (by omega) (by omega)
    obtain ⟨b, h3, h4⟩ := names_eq (N := N + 60) (s := s) (by omega) (by omega)
    rw [h1, h2, h3, h4]
    simp [h]
end Go.Vc
/-
  PLAIN LAWS OF SERIAL, 2: tables that are not large; what a check of a table answers.
-/
namespace Go.Vc
set_option linter.unusedVariables false
set_option linter.unnecessarySimpa false
set_option linter.unusedSimpArgs false
set_option linter.unusedSimpArgs false
open Classical in
/-- a table of at most 20 rows of 20 -/
def Small (t : List (List Int)) : Prop := t.length ≤ 20 ∧ ∀ r, r ∈ t → r.length ≤ 20
theorem f20_eq {N : Nat} {t : List (List Int)} (hN : 30 ≤ N) : ∃ b, f20 N t = some b ∧ (b = false → Small t) := by
  unfold f20
  by_cases h : 20 < (t.length : Int)
  · exact ⟨true, by simp [h], by simp⟩
  · simp only [h, decide_false, cond_false, joinK]
    rw [loop_ex0 (F := f20_4 t f20_c8) (k0 := f20_c8) (e := some true) (p := fun i => ∃ r, t[i]? = some r ∧ 20 < r.length) t.length]
    · by_cases hx : ∃ j, j < t.length ∧ ∃ r, t[j]? = some r ∧ 20 < r.length
      · exact ⟨true, by rw [if_pos hx], by simp⟩
      · refine ⟨false, by rw [if_neg hx]; rfl, fun _ => ⟨by omega, fun r hr => ?_⟩⟩
        obtain ⟨i, hi⟩ := List.mem_iff_getElem?.1 hr
        by_cases hh : 20 < r.length
        · exact absurd ⟨i, (List.getElem?_eq_some_iff.1 hi).1, r, hi, hh⟩ hx
        · omega
    · intro n i hi
      obtain ⟨r, hr⟩ : ∃ r, t[i]? = some r := ⟨t[i], by simp [hi]⟩
      conv => lhs; unfold f20_4 f20_4b
      simp only [show (i : Int) < (t.length : Int) by omega, decide_true, cond_true, ix_nat, hr, Option.bind_some]
      rw [W_nat (by omega)]
      by_cases hh : 20 < r.length
      · rw [if_pos ⟨r, rfl, hh⟩]; simp [show (20 : Int) < (r.length : Int) by omega]
      · rw [if_neg (by rintro ⟨q, hq, h2⟩; cases hq; exact hh h2)]; simp [show ¬ (20 : Int) < (r.length : Int) by omega]
    · intro n; unfold f20_4 f20_4b; simp
    · omega
/-- an entry of a table -/
def row (t : List (List Int)) (i : Nat) : List Int := t.getD i []
def en (t : List (List Int)) (i j : Nat) : Int := (row t i).getD j 0
theorem row_get {t : List (List Int)} {i : Nat} (h : i < t.length) : t[i]? = some (row t i) := by
  simp [row, h]
theorem row_mem {t : List (List Int)} {i : Nat} (h : i < t.length) : row t i ∈ t := by
  simp [row, h]
theorem ix_row {t : List (List Int)} {i : Nat} (h : i < t.length) : ix t (i : Int) = some (row t i) := by rw [ix_nat, row_get h]
theorem ix_en {t : List (List Int)} {i j : Nat} (h : j < (row t i).length) : ix (row t i) (j : Int) = some (en t i j) := by
  rw [ix_nat]; simp [en, h]
open Classical in
noncomputable def chkT (t : List (List Int)) : Int :=
  if ¬ (2 ≤ t.length ∧ t.length ≤ 10) then 3
  else if ∃ i, i < t.length ∧ (row t i).length ≠ t.length then 3
  else if ∃ i, i < t.length ∧ ∃ j, j < t.length ∧ ¬ (0 ≤ en t i j ∧ en t i j < t.length) then 4
  else if ∃ i, i < t.length ∧ ∃ j, j < t.length ∧ ∃ k, k < j ∧ (en t i j = en t i k ∨ en t j i = en t k i) then 6
  else 0
theorem W_sub1 {n : Nat} (h : n ≤ 1000000) : W ((n : Int) - (1 : Int)) = (n : Int) - 1 := W_of (by omega) (by omega)
open Classical in
theorem f50_eq {N : Nat} {t : List (List Int)} (hs : t.length ≤ 20) (hN : 30 ≤ N) : f50 N t = some (chkT t) := by
  unfold f50 chkT
  rw [f57_eq]
  simp only [Option.bind_some]
  by_cases h1 : 2 ≤ t.length ∧ t.length ≤ 10
  · rw [if_neg (by simp [h1]), show decide ((2 : Int) ≤ (t.length : Int) ∧ (t.length : Int) ≤ 10) = true by simp; omega]
    simp only [Bool.not_true, cond_false, joinK]
    rw [loop_ex0 (F := f50_4 t (f50_c8 t N)) (e := some 3) (k0 := f50_c8 t N) (p := fun i => (row t i).length ≠ t.length) t.length]
    · by_cases h2 : ∃ i, i < t.length ∧ (row t i).length ≠ t.length
      · rw [if_pos h2, if_pos h2]
      · rw [if_neg h2, if_neg h2]
        have hl : ∀ i, i < t.length → (row t i).length = t.length := fun i hi => by
          by_cases hh : (row t i).length = t.length
          · exact hh
          · exact absurd ⟨i, hi, hh⟩ h2
        unfold f50_c8
        simp only [joinK]
        rw [loop_ex0 (F := f50_9 t N (f50_c16 t N)) (e := some 4) (k0 := f50_c16 t N) (p := fun i => ∃ j, j < t.length ∧ ¬ (0 ≤ en t i j ∧ en t i j < t.length)) t.length]
        · by_cases h3 : ∃ i, i < t.length ∧ ∃ j, j < t.length ∧ ¬ (0 ≤ en t i j ∧ en t i j < t.length)
          · rw [if_pos h3, if_pos h3]
          · rw [if_neg h3, if_neg h3]
            unfold f50_c16
            simp only [joinK]
            rw [loop_ex0 (F := f50_17 t N f50_c27) (e := some 6) (k0 := f50_c27) (p := fun i => ∃ j, j < t.length ∧ ∃ k, k < j ∧ (en t i j = en t i k ∨ en t j i = en t k i)) t.length]
            · split <;> rfl
            · intro n i hi
              conv => lhs; unfold f50_17 f50_17b
              simp only [show (i : Int) < (t.length : Int) by omega, decide_true, cond_true, joinK]
              refine (loop_ex0 (e := some 6) (k0 := f50_c18 t (i : Int) (f50_17 t N f50_c27 n)) (p := fun j => ∃ k, k < j ∧ (en t i j = en t i k ∨ en t j i = en t k i)) t.length ?_ ?_ ?_).trans ?_
              · intro m j hj
                conv => lhs; unfold f50_20 f50_20b
                simp only [show (j : Int) < (t.length : Int) by omega, decide_true, cond_true, joinK]
                refine (loop_ex0 (e := some 6) (k0 := f50_c21 t (i : Int) (j : Int) (f50_20 t N (i : Int) (f50_c18 t (i : Int) (f50_17 t N f50_c27 n)) m)) (p := fun k => (en t i j = en t i k ∨ en t j i = en t k i)) j ?_ ?_ ?_).trans ?_
                · intro q k hk
                  conv => lhs; unfold f50_23 f50_23b
                  simp only [show (k : Int) < (j : Int) by omega, decide_true, cond_true, ix_row (show i < t.length from hi), ix_row (show j < t.length from hj), ix_row (show k < t.length by omega), Option.bind_some,
                    ix_en (t := t) (i := i) (j := j) (by rw [hl _ hi]; exact hj), ix_en (t := t) (i := i) (j := k) (by rw [hl _ hi]; omega), ix_en (t := t) (i := j) (j := i) (by rw [hl _ hj]; exact hi), ix_en (t := t) (i := k) (j := i) (by rw [hl _ (by omega)]; exact hi)]
                  rw [W_nat (by omega)]
                  by_cases e1 : en t i j = en t i k
                  · simp [e1]
                  · by_cases e2 : en t j i = en t k i
                    · simp [e1, e2]
                    · simp [e1, e2]
                · intro q; unfold f50_23 f50_23b; simp
                · omega
                · unfold f50_c21; rw [W_nat (by omega)]; exact iffD Iff.rfl
              · intro m; unfold f50_20 f50_20b; simp
              · omega
              · unfold f50_c18; rw [W_nat (by omega)]; exact iffD Iff.rfl
            · intro n; unfold f50_17 f50_17b; simp
            · omega
        · intro n i hi
          conv => lhs; unfold f50_9 f50_9b
          simp only [show (i : Int) < (t.length : Int) by omega, decide_true, cond_true, joinK]
          refine (loop_ex0 (e := some 4) (k0 := f50_c10 t (i : Int) (f50_9 t N (f50_c16 t N) n)) (p := fun j => ¬ (0 ≤ en t i j ∧ en t i j < t.length)) t.length ?_ ?_ ?_).trans ?_
          · intro m j hj
            conv => lhs; unfold f50_12 f50_12b
            simp only [show (j : Int) < (t.length : Int) by omega, decide_true, cond_true, ix_row (show i < t.length from hi), Option.bind_some, ix_en (t := t) (i := i) (j := j) (by rw [hl _ hi]; exact hj), f57_eq, W_sub1 (show t.length ≤ 1000000 by omega)]
            rw [W_nat (by omega)]
            by_cases e1 : 0 ≤ en t i j ∧ en t i j < t.length
            · rw [if_neg (by simp [e1]), show decide (0 ≤ en t i j ∧ en t i j ≤ (t.length : Int) - 1) = true by simp; omega]; rfl
            · rw [if_pos e1, show decide (0 ≤ en t i j ∧ en t i j ≤ (t.length : Int) - 1) = false by simp; omega]; rfl
          · intro m; unfold f50_12 f50_12b; simp
          · omega
          · unfold f50_c10; rw [W_nat (by omega)]; exact iffD Iff.rfl
        · intro n; unfold f50_9 f50_9b; simp
        · omega
    · intro n i hi
      conv => lhs; unfold f50_4 f50_4b
      simp only [show (i : Int) < (t.length : Int) by omega, decide_true, cond_true, ix_row (show i < t.length from hi), Option.bind_some]
      rw [W_nat (by omega)]
      by_cases e1 : (row t i).length = t.length
      · simp [e1]
      · simp [e1, show ¬ ((row t i).length : Int) = (t.length : Int) by omega]
    · intro n; unfold f50_4 f50_4b; simp
    · omega
  · rw [if_pos (by simpa using h1), show decide ((2 : Int) ≤ (t.length : Int) ∧ (t.length : Int) ≤ 10) = false by simp; omega]
    rfl
end Go.Vc
/-
  PLAIN LAWS OF SERIAL, 3: the check of a table, as the program does it.
-/
namespace Go.Vc
set_option linter.unusedVariables false
set_option linter.unnecessarySimpa false
set_option linter.unusedSimpArgs false
set_option linter.unusedSimpArgs false
theorem take_flat {t : List (List Int)} {i : Nat} (h : i < t.length) : (t.take (i + 1)).flatten = (t.take i).flatten ++ row t i := by
  rw [List.take_add_one, row_get h]; simp
theorem row_le {t : List (List Int)} {m i : Nat} (hr : ∀ r, r ∈ t → r.length ≤ m) (h : i < t.length) : (row t i).length ≤ m := hr _ (row_mem h)
theorem f83_eq {N : Nat} {t : List (List Int)} (hs : Small t) (hN : 30 ≤ N) : f83 N t = some t.flatten := by
  obtain ⟨hs, hr⟩ := hs
  unfold f83
  simp only [joinK]
  obtain ⟨h1, h2⟩ := loop_inv0 (F := f83_3 t (f83_c9 t N)) (k := f83_c9 t N) (fun (s : Int) i => s + ((row t i).length : Int)) (fun i s => 0 ≤ s ∧ s ≤ 20 * i) t.length (by
      intro n s i hi h
      conv => lhs; unfold f83_3 f83_3b
      have := row_le hr hi
      have hw : W (s + ((row t i).length : Int)) = s + ((row t i).length : Int) := W_of (by omega) (by omega)
      simp only [show (i : Int) < (t.length : Int) by omega, decide_true, cond_true, ix_row hi, Option.bind_some, hw, show ¬ s + ((row t i).length : Int) < 0 by omega, decide_false, cond_false]
      rw [W_nat (by omega)]) (by
      intro s i hi h
      have := row_le hr hi
      omega) (by intro n s; (conv => lhs; unfold f83_3 f83_3b); simp) (n := N) (s := 0) (by omega) ⟨by omega, by omega⟩
  rw [h1]
  generalize (List.range t.length).foldl (fun (s : Int) i => s + ((row t i).length : Int)) 0 = z at h2
  have hk : f83_c10 t N [] = some t.flatten := by
    unfold f83_c10
    simp only [joinK]
    obtain ⟨h3, h4⟩ := loop_inv0 (F := f83_11 t f83_c15) (k := f83_c15) (fun (s : List Int) i => s ++ row t i) (fun i s => s = (t.take i).flatten ∧ s.length ≤ 20 * i) t.length (by
      intro n s i hi h
      conv => lhs; unfold f83_11 f83_11b
      have := row_le hr hi
      simp only [show (i : Int) < (t.length : Int) by omega, decide_true, cond_true, ix_row hi, Option.bind_some]
      rw [app_ok (by omega) (by omega)]
      simp only [Option.bind_some]
      rw [W_nat (by omega)]) (by
      intro s i hi h
      have := row_le hr hi
      exact ⟨by rw [h.1, take_flat hi], by simp; omega⟩) (by intro n s; (conv => lhs; unfold f83_11 f83_11b); simp) (n := N) (s := []) (by omega) ⟨by simp, by simp⟩
    rw [h3, h4.1, List.take_length]; rfl
  unfold f83_c9
  simp only [joinK]
  rw [show decide (z < 0) = false by simp; omega]
  simp only [cond_false]
  rw [show W (z - W (0 - 0)) = z by
    rw [show W ((0 : Int) - 0) = 0 from rfl, Int.sub_zero]; exact W_of (by omega) (by omega)]
  by_cases h0 : 0 < z
  · simp only [h0, decide_true, cond_true]
    unfold mkA
    rw [if_pos ⟨by omega, by omega⟩]
    simp only [Option.bind_some]
    rw [show subR (List.replicate z.toNat (0 : Int)) 0 0 = some [] by
      unfold subR sub
      rw [if_pos ⟨by omega, by omega, by omega⟩]; simp]
    exact hk
  · simp only [h0, decide_false, cond_false]
    exact hk
open Classical in
/-- what has been seen -/
def Seen (b : List Bool) (f : Nat → Int) (i : Nat) : Prop := b.length = 10 ∧ ∀ x : Nat, x < 10 → (b[x]? = some true ↔ ∃ j, j < i ∧ f j = (x : Int)) 
theorem Seen.zero {f : Nat → Int} : Seen (List.replicate 10 false) f 0 :=
  ⟨by simp, fun x hx => by rw [List.getElem?_replicate, if_pos hx]; exact ⟨fun h => (by cases h), fun ⟨j, h, _⟩ => by omega⟩⟩
theorem Seen.get {b : List Bool} {f : Nat → Int} {i : Nat} (h : Seen b f i) {x : Int} (h0 : 0 ≤ x) (h1 : x < 10) : ∃ v, ixN b x.toNat = some v ∧ (v = true ↔ ∃ j, j < i ∧ f j = x) := by
  obtain ⟨hl, hb⟩ := h
  refine ⟨b[x.toNat]'(by omega), by simp [ixN, show x.toNat < b.length by omega], ?_⟩
  have := hb x.toNat (by omega)
  rw [List.getElem?_eq_getElem (by omega)] at this
  rw [show ((x.toNat : Nat) : Int) = x by omega] at this
  rw [← this]; simp
theorem Seen.set {b : List Bool} {f : Nat → Int} {i : Nat} (h : Seen b f i) {x : Int} (h0 : 0 ≤ x) (h1 : x < 10) (hx : f i = x) : ∃ b', setN b x.toNat true = some b' ∧ Seen b' f (i + 1) := by
  obtain ⟨hl, hb⟩ := h
  refine ⟨b.set x.toNat true, by simp [setN, show x.toNat < b.length by omega], by simp [hl], fun y hy => ?_⟩
  rw [List.getElem?_set]
  by_cases e : x.toNat = y
  · rw [if_pos e, if_pos (by omega)]
    exact ⟨fun _ => ⟨i, by omega, by omega⟩, fun _ => rfl⟩
  · rw [if_neg e, hb y hy]
    constructor
    · rintro ⟨j, h2, h3⟩; exact ⟨j, by omega, h3⟩
    · rintro ⟨j, h2, h3⟩
      by_cases hj : j = i
      · subst hj; omega
      · exact ⟨j, by omega, h3⟩
/-- a table whose rows have its length, of numbers below it -/
structure Sq (t : List (List Int)) : Prop where
  hi : t.length ≤ 10
  len : ∀ i, i < t.length → (row t i).length = t.length
  lo : ∀ i j, i < t.length → j < t.length → 0 ≤ en t i j ∧ en t i j < t.length
theorem chkI_ok {n : Nat} {x : Int} (h : 0 ≤ x) (h' : x < n) : chkI n x = some () := by simp [chkI, h, h']
theorem Sq.ix {t : List (List Int)} (h : Sq t) {i j : Nat} (hi : i < t.length) (hj : j < t.length) : Vc.ix (row t i) (j : Int) = some (en t i j) := ix_en (by rw [h.len i hi]; exact hj)
open Classical in
theorem f85_in {N : Nat} {t : List (List Int)} (hq : Sq t) {k0 k1 : Bool → Option Bool} {v : Nat} (hv : v < t.length) : ∀ n i a b, i ≤ t.length → t.length - i < n → Seen a (en t v) i → Seen b (fun j => en t j v) i →
    f85_7 t k0 (v : Int) k1 n false (i : Int) a b = if ∃ j, i ≤ j ∧ j < t.length ∧ ∃ k, k < j ∧ (en t v j = en t v k ∨ en t j v = en t k v) then k0 true else k1 false := by
  intro n
  induction n with
  | zero => intro i a b _ h; omega
  | succ n ih =>
    intro i a b hi hn ha hb
    have hlen := hq.hi
    conv => lhs; unfold f85_7 f85_7b
    by_cases h : i = t.length
    · subst h
      simp only [Int.lt_irrefl, decide_false, cond_false]
      rw [if_neg]
      rintro ⟨j, h1, h2, _⟩; omega
    · have hi : i < t.length := by omega
      have hn1 : t.length - (i + 1) < n := by omega
      have hw : W ((i : Int) + 1) = ((i + 1 : Nat) : Int) := W_nat (by omega)
      have r1 := hq.lo v i hv hi
      have r2 := hq.lo i v hi hv
      simp only [show (i : Int) < (t.length : Int) by omega, decide_true, cond_true, ix_row hv, ix_row hi, Option.bind_some, hq.ix hv hi, hq.ix hi hv, chkI_ok (n := 10) r1.1 (by omega), chkI_ok (n := 10) r2.1 (by omega)]
      obtain ⟨x, hx, hx2⟩ := ha.get r1.1 (by omega)
      obtain ⟨y, hy, hy2⟩ := hb.get r2.1 (by omega)
      rw [hx, hy]
      simp only [Option.bind_some]
      cases x with
      | true =>
        obtain ⟨k, h1, h2⟩ := hx2.1 rfl
        simp only [cond_true]
        rw [if_pos ⟨i, Nat.le_refl _, hi, k, h1, .inl h2.symm⟩]
      | false =>
        simp only [cond_false]
        cases y with
        | true =>
          obtain ⟨k, h1, h2⟩ := hy2.1 rfl
          simp only [cond_true]
          rw [if_pos ⟨i, Nat.le_refl _, hi, k, h1, .inr h2.symm⟩]
        | false =>
          simp only [cond_false]
          obtain ⟨a', ha1, ha2⟩ := ha.set r1.1 (by omega) rfl
          obtain ⟨b', hb1, hb2⟩ := hb.set r2.1 (by omega) rfl
          rw [ha1]
          simp only [Option.bind_some]
          rw [hb1]
          simp only [Option.bind_some]
          rw [hw, ih (i + 1) a' b' hi hn1 ha2 hb2]
          refine iffD ?_
          constructor
          · rintro ⟨j, h1, h2⟩; exact ⟨j, by omega, h2⟩
          · rintro ⟨j, h1, h2, k, h3, h4⟩
            by_cases hj : j = i
            · subst hj
              rcases h4 with h4 | h4
              · exact absurd (hx2.2 ⟨k, h3, h4.symm⟩) (by simp)
              · exact absurd (hy2.2 ⟨k, h3, h4.symm⟩) (by simp)
            · exact ⟨j, by omega, h2, k, h3, h4⟩
/-- some number is twice in a row or a column -/
def Twice (t : List (List Int)) : Prop := ∃ i, i < t.length ∧ ∃ j, j < t.length ∧ ∃ k, k < j ∧ (en t i j = en t i k ∨ en t j i = en t k i)
open Classical in
theorem f85_eq {N : Nat} {t : List (List Int)} (hq : Sq t) (hN : 30 ≤ N) : ∃ b, f85 N t = some b ∧ (b = true ↔ Twice t) := by
  unfold f85
  have hlen := hq.hi
  simp only [joinK]
  rw [loop_ex0 (F := fun n i => f85_3 t N f85_c15 n false i) (e := some true) (k0 := some false) (p := fun i => ∃ j, j < t.length ∧ ∃ k, k < j ∧ (en t i j = en t i k ∨ en t j i = en t k i)) t.length]
  · unfold Twice
    by_cases h : ∃ i, i < t.length ∧ ∃ j, j < t.length ∧ ∃ k, k < j ∧ (en t i j = en t i k ∨ en t j i = en t k i)
    · exact ⟨true, by rw [if_pos h], by simp [h]⟩
    · exact ⟨false, by rw [if_neg h], by simp [h]⟩
  · intro n i hi
    show f85_3 t N f85_c15 (n + 1) false (i : Int) = _
    conv => lhs; unfold f85_3 f85_3b
    simp only [show (i : Int) < (t.length : Int) by omega, decide_true, cond_true, joinK]
    rw [show (0 : Int) = ((0 : Nat) : Int) from rfl, f85_in (N := N) hq hi N 0 _ _ (by omega) (by omega) Seen.zero Seen.zero]
    unfold f85_c14 f85_c15
    rw [W_nat (by omega)]
    refine iffD ⟨?_, ?_⟩
    · rintro ⟨j, _, h2⟩; exact ⟨j, h2⟩
    · rintro ⟨j, h2⟩; exact ⟨j, by omega, h2⟩
  · intro n
    show f85_3 t N f85_c15 (n + 1) false _ = _
    conv => lhs; unfold f85_3 f85_3b
    simp [f85_c15]
  · omega
theorem flat_ex {t : List (List Int)} (hlen : ∀ i, i < t.length → (row t i).length = t.length) {p : Int → Prop} : (∃ v, v < t.flatten.length ∧ p (t.flatten.getD v 0)) ↔ ∃ i, i < t.length ∧ ∃ j, j < t.length ∧ p (en t i j) := by
  constructor
  · rintro ⟨v, hv, hp⟩
    have hm : t.flatten.getD v 0 ∈ t.flatten := by
      rw [List.getD_eq_getElem?_getD, List.getElem?_eq_getElem hv]; exact List.getElem_mem hv
    obtain ⟨r, hr, hx⟩ := List.mem_flatten.1 hm
    obtain ⟨i, hi⟩ := List.mem_iff_getElem?.1 hr
    obtain ⟨j, hj⟩ := List.mem_iff_getElem?.1 hx
    have hi' := (List.getElem?_eq_some_iff.1 hi).1
    have hj' := (List.getElem?_eq_some_iff.1 hj).1
    have e1 : row t i = r := by rw [row_get hi'] at hi; exact Option.some.inj hi
    refine ⟨i, hi', j, by rw [← hlen i hi', e1]; exact hj', ?_⟩
    have : en t i j = t.flatten.getD v 0 := by unfold en; rw [e1, List.getD_eq_getElem?_getD, hj]; rfl
    rw [this]; exact hp
  · rintro ⟨i, hi, j, hj, hp⟩
    have hm : en t i j ∈ t.flatten := List.mem_flatten.2 ⟨row t i, row_mem hi, by
      unfold en
      have : j < (row t i).length := by rw [hlen i hi]; exact hj
      simp [this]⟩
    obtain ⟨v, hv⟩ := List.mem_iff_getElem?.1 hm
    exact ⟨v, (List.getElem?_eq_some_iff.1 hv).1, by rw [List.getD_eq_getElem?_getD, hv]; exact hp⟩
open Classical in
theorem f49_eq {N : Nat} {t : List (List Int)} (hs : Small t) (hN : 500 ≤ N) : f49 N t = some (chkT t) := by
  have hs0 := hs
  obtain ⟨hs, hr⟩ := hs
  unfold f49 chkT
  rw [f64_eq]
  simp only [Option.bind_some]
  by_cases h1 : 2 ≤ t.length ∧ t.length ≤ 10
  · rw [if_neg (by simp [h1]), show decide ((2 : Int) ≤ (t.length : Int) ∧ (t.length : Int) ≤ 10) = true by simp; omega]
    simp only [Bool.not_true, cond_false, joinK]
    rw [loop_ex0 (F := f49_i206_i207000102_2 t N (f49_i206_i207000102_c7 t N)) (e := some 3) (k0 := f49_i206_i207000102_c7 t N) (p := fun i => (row t i).length ≠ t.length) t.length]
    · by_cases h2 : ∃ i, i < t.length ∧ (row t i).length ≠ t.length
      · rw [if_pos h2, if_pos h2]
      · rw [if_neg h2, if_neg h2]
        have hl : ∀ i, i < t.length → (row t i).length = t.length := fun i hi => by
          by_cases hh : (row t i).length = t.length
          · exact hh
          · exact absurd ⟨i, hi, hh⟩ h2
        have hfl : t.flatten.length ≤ 400 := by
          have : ∀ (l : List (List Int)), (∀ r, r ∈ l → r.length ≤ 20) → l.flatten.length ≤ 20 * l.length := by
            intro l
            induction l with
            | nil => intro _; simp
            | cons x l ih =>
              intro h
              have := ih fun r hr => h r (by simp [hr])
              have := h x (by simp)
              simp only [List.flatten_cons, List.length_append, List.length_cons]; omega
          have := this t hr; omega
        unfold f49_i206_i207000102_c7
        rw [f83_eq hs0 (by omega)]
        simp only [Option.bind_some, joinK]
        rw [loop_ex0 (F := f49_i403_i404000102_2 t N t.flatten (f49_i403_i404000102_c7 t N)) (e := some 4) (k0 := f49_i403_i404000102_c7 t N) (p := fun v => ¬ (0 ≤ t.flatten.getD v 0 ∧ t.flatten.getD v 0 < t.length)) t.flatten.length]
        · by_cases h3 : ∃ i, i < t.length ∧ ∃ j, j < t.length ∧ ¬ (0 ≤ en t i j ∧ en t i j < t.length)
          · rw [if_pos h3, if_pos ((flat_ex hl (p := fun x => ¬ (0 ≤ x ∧ x < t.length))).2 h3)]
          · rw [if_neg h3, if_neg (fun hh => h3 ((flat_ex hl (p := fun x => ¬ (0 ≤ x ∧ x < t.length))).1 hh))]
            unfold f49_i403_i404000102_c7
            have hq : Sq t := ⟨h1.2, hl, fun i j hi hj => by
              by_cases hh : 0 ≤ en t i j ∧ en t i j < t.length
              · exact hh
              · exact absurd ⟨i, hi, j, hj, hh⟩ h3⟩
            obtain ⟨b, hb, hb2⟩ := f85_eq (N := N) hq (by omega)
            rw [hb]
            simp only [Option.bind_some]
            unfold Twice at hb2
            cases b with
            | true => rw [if_pos (hb2.1 rfl)]; rfl
            | false => rw [if_neg (fun hh => absurd (hb2.2 hh) (by simp))]; rfl
        · intro n v hv
          conv => lhs; unfold f49_i403_i404000102_2 f49_i403_i404000102_2b
          have hg : ix t.flatten (v : Int) = some (t.flatten.getD v 0) := by rw [ix_nat, List.getD_eq_getElem?_getD, List.getElem?_eq_getElem hv]; rfl
          simp only [show (v : Int) < (t.flatten.length : Int) by omega, decide_true, cond_true, hg, Option.bind_some, f64_eq, W_sub1 (show t.length ≤ 1000000 by omega), show (0 : Int) ≤ (v : Int) by omega]
          rw [W_nat (by omega)]
          by_cases e1 : 0 ≤ t.flatten.getD v 0 ∧ t.flatten.getD v 0 < t.length
          · rw [if_neg (by simpa using e1), show decide (0 ≤ t.flatten.getD v 0 ∧ t.flatten.getD v 0 ≤ (t.length : Int) - 1) = true by simp only [decide_eq_true_eq]; omega]; rfl
          · rw [if_pos e1, show decide (0 ≤ t.flatten.getD v 0 ∧ t.flatten.getD v 0 ≤ (t.length : Int) - 1) = false by simp only [decide_eq_false_iff_not]; omega]; rfl
        · intro n; (conv => lhs; unfold f49_i403_i404000102_2 f49_i403_i404000102_2b); simp
        · omega
    · intro n i hi
      conv => lhs; unfold f49_i206_i207000102_2 f49_i206_i207000102_2b
      simp only [show (i : Int) < (t.length : Int) by omega, decide_true, cond_true, ix_row (show i < t.length from hi), Option.bind_some, show (0 : Int) ≤ (i : Int) by omega]
      rw [W_nat (by omega)]
      by_cases e1 : (row t i).length = t.length
      · simp [e1]
      · simp [e1, show ¬ ((row t i).length : Int) = (t.length : Int) by omega]
    · intro n; (conv => lhs; unfold f49_i206_i207000102_2 f49_i206_i207000102_2b); simp
    · omega
  · rw [if_pos (by simpa using h1), show decide ((2 : Int) ≤ (t.length : Int) ∧ (t.length : Int) ≤ 10) = false by simp; omega]
    rfl
/-- a table that is right -/
structure Lat (t : List (List Int)) : Prop extends Sq t where
  two : 2 ≤ t.length
  once : ¬ Twice t
open Classical in
theorem chkT_good {t : List (List Int)} : chkT t = 0 ↔ Lat t := by
  unfold chkT
  constructor
  · intro h
    split at h
    · exact absurd h (by decide)
    · rename_i h1
      split at h
      · exact absurd h (by decide)
      · rename_i h2
        split at h
        · exact absurd h (by decide)
        · rename_i h3
          split at h
          · exact absurd h (by decide)
          · rename_i h4
            refine ⟨⟨by omega, fun i hi => ?_, fun i j hi hj => ?_⟩, by omega, h4⟩
            · by_cases hh : (row t i).length = t.length
              · exact hh
              · exact absurd ⟨i, hi, hh⟩ h2
            · by_cases hh : 0 ≤ en t i j ∧ en t i j < t.length
              · exact hh
              · exact absurd ⟨i, hi, j, hj, hh⟩ h3
  · intro h
    rw [if_neg (fun hn => hn ⟨h.two, h.hi⟩), if_neg (by rintro ⟨i, hi, hh⟩; exact hh (h.len i hi)), if_neg (by rintro ⟨i, hi, j, hj, hh⟩; exact hh (h.lo i j hi hj))]
    exact if_neg h.once
end Go.Vc
namespace Go.Vc
open Go.Proofs
set_option linter.unusedVariables false
set_option linter.unnecessarySimpa false
set_option linter.unusedSimpArgs false
def f67 (N : Nat) (a0 : List Int) (a1 : Int) (a2 : Int) : Option ((List Int)) :=
 (app 8 [] a0).bind fun x1 =>
 (ix x1 a1).bind fun x2 =>
 (setx x1 a1 a2).bind fun x3 =>
 some (x3)
end Go.Vc
namespace Go.Vc
open Go.Proofs
set_option linter.unusedVariables false
set_option linter.unnecessarySimpa false
set_option linter.unusedSimpArgs false
def f26_c9 (d9 : Int) : Option (Int × Int) :=
 some (d9, (0 : Int))
def f26_7b (r7 : Int → Option (Int × Int)) (a0 : List (List Int)) (a1 : List Int) (a2 : Int) (N : Nat) (k0 : Int → Option (Int × Int)) (d9 : Int) : Option (Int × Int) :=
 (f67 N a1 a2 d9).bind fun x2 =>
 (f61 N a0 x2).bind fun x3 =>
 bif decide (¬ x3 = (0 : Int)) then (r7 (W (d9 + (1 : Int))))
 else (k0 d9)
def f26_7 (a0 : List (List Int)) (a1 : List Int) (a2 : Int) (N : Nat) (k0 : Int → Option (Int × Int)) : Nat → Int → Option (Int × Int)
  | 0, _ => none
  | n + 1, d9 => f26_7b (f26_7 a0 a1 a2 N k0 n) a0 a1 a2 N k0 d9
def f26_c4 (a0 : List (List Int)) (a1 : List Int) (a2 : Int) (N : Nat) (e8 : Int) : Option (Int × Int) :=
 bif decide (¬ e8 = (0 : Int)) then (some ((0 : Int), e8))
 else (joinK f26_c9 fun k0 =>
 f26_7 a0 a1 a2 N k0 N (0 : Int))
def f26 (N : Nat) (a0 : List (List Int)) (a1 : List Int) (a2 : Int) : Option (Int × Int) :=
 (f66 N a0 a1).bind fun x1 =>
 joinK (f26_c4 a0 a1 a2 N) fun k1 =>
 bif decide (x1 = (0 : Int)) then ((f57 N a2 (0 : Int) (W ((List.length a1 : Int) - (1 : Int)))).bind fun x4 =>
 bif !x4 then (k1 (5 : Int))
 else (k1 x1))
 else (k1 x1)
end Go.Vc
namespace Go.Vc
open Go.Proofs
set_option linter.unusedVariables false
set_option linter.unnecessarySimpa false
set_option linter.unusedSimpArgs false
def f4 (N : Nat) (a0 : List (List Int)) (a1 : List Int) (a2 : Int) : Option (Bool) :=
 (f20 N a0).bind fun x1 =>
 bif x1 then ((f15 N ).bind fun x2 =>
 some (x2))
 else (bif decide ((40 : Int) < (List.length a1 : Int)) then ((f15 N ).bind fun x3 =>
 some (x3))
 else ((f21 N a0 a1).bind fun x4 =>
 (f22 N a0 a1).bind fun x5 =>
 (f23 N a0 a1).bind fun x6 =>
 (f24 N a0 a1).bind fun x7 =>
 (f25 N a0 a1 a2).bind fun x8 =>
 (f26 N a0 a1 a2).bind fun x9 =>
 bif decide (x4.1 = x5.1) then (bif decide (x4.2 = x5.2) then (bif decide (x6.1 = x7.1) then (bif decide (x6.2 = x7.2) then (bif decide (x8.1 = x9.1) then (bif decide (x8.2 = x9.2) then ((f27 N a0 a1).bind fun x10 =>
 (f28 N a0 a1).bind fun x11 =>
 bif decide (x10 = x11) then ((f15 N ).bind fun x12 =>
 some (x12))
 else (some (false)))
 else (some (false)))
 else (some (false)))
 else (some (false)))
 else (some (false)))
 else (some (false)))
 else (some (false))))
end Go.Vc
/-
  PLAIN LAWS OF SERIAL, 4: states, check digits, right codes, restored digits.
-/
namespace Go.Vc
set_option linter.unusedVariables false
set_option linter.unnecessarySimpa false
set_option linter.unusedSimpArgs false
set_option linter.unusedSimpArgs false
/-- pigeons -/
theorem pig : ∀ (n : Nat) (f : Nat → Nat), (∀ i, i < n → f i < n) → (∀ i j, i < n → j < n → f i = f j → i = j) → ∀ y, y < n → ∃ i, i < n ∧ f i = y := by
  intro n
  induction n with
  | zero => intro f _ _ y h; omega
  | succ m ih =>
    intro f h hi y hy
    have hz := h m (by omega)
    have hg := ih (fun i => if f i = m then f m else f i) (by
      intro i him
      have h1 := h i (by omega)
      by_cases e : f i = m
      · have : f m ≠ m := fun hh => by have := hi i m (by omega) (by omega) (e.trans hh.symm); omega
        simp only [e, if_true]; omega
      · simp only [e, if_false]; omega) (by
      intro i j him hjm hh
      by_cases e : f i = m
      · by_cases e2 : f j = m
        · exact hi i j (by omega) (by omega) (e.trans e2.symm)
        · simp only [e, e2, if_true, if_false] at hh
          have := hi m j (by omega) (by omega) hh; omega
      · by_cases e2 : f j = m
        · simp only [e, e2, if_true, if_false] at hh
          have := hi i m (by omega) (by omega) hh; omega
        · simp only [e, e2, if_false] at hh
          exact hi i j (by omega) (by omega) hh)
    by_cases e : y = f m
    · exact ⟨m, by omega, e.symm⟩
    · by_cases e2 : y < m
      · obtain ⟨i, h1, h2⟩ := hg y e2
        refine ⟨i, by omega, ?_⟩
        by_cases e3 : f i = m
        · simp only [e3, if_true] at h2; omega
        · simpa only [e3, if_false] using h2
      · obtain ⟨i, h1, h2⟩ := hg (f m) (by omega)
        refine ⟨i, by omega, ?_⟩
        by_cases e3 : f i = m
        · omega
        · simp only [e3, if_false] at h2
          have := hi i m (by omega) (by omega) h2; omega
/-- the state after digits -/
def dl (t : List (List Int)) (s : Nat) (l : List Int) : Nat := l.foldl (fun s d => (en t s d.toNat).toNat) s
def Dig (t : List (List Int)) (l : List Int) : Prop := ∀ x, x ∈ l → 0 ≤ x ∧ x < t.length
theorem dl_nil {t : List (List Int)} {s : Nat} : dl t s [] = s := rfl
theorem dl_cons {t : List (List Int)} {s : Nat} {d : Int} {l : List Int} : dl t s (d :: l) = dl t (en t s d.toNat).toNat l := rfl
theorem dl_append {t : List (List Int)} {s : Nat} {a b : List Int} : dl t s (a ++ b) = dl t (dl t s a) b := by simp [dl]
theorem Dig.cons {t : List (List Int)} {d : Int} {l : List Int} (h : Dig t (d :: l)) : (0 ≤ d ∧ d < t.length) ∧ Dig t l := ⟨h d (by simp), fun x hx => h x (by simp [hx])⟩
theorem Dig.append {t : List (List Int)} {a b : List Int} : Dig t (a ++ b) ↔ Dig t a ∧ Dig t b := by
  constructor
  · intro h; exact ⟨fun x hx => h x (by simp [hx]), fun x hx => h x (by simp [hx])⟩
  · rintro ⟨h1, h2⟩ x hx
    rcases List.mem_append.1 hx with hx | hx
    · exact h1 x hx
    · exact h2 x hx
theorem Sq.step {t : List (List Int)} (h : Sq t) {s : Nat} {d : Int} (hs : s < t.length) (hd : 0 ≤ d ∧ d < t.length) : (en t s d.toNat).toNat < t.length ∧ Vc.ix (row t s) d = some (((en t s d.toNat).toNat : Nat) : Int) := by
  have := h.lo s d.toNat hs (by omega)
  refine ⟨by omega, ?_⟩
  have h2 := h.ix hs (show d.toNat < t.length by omega)
  rw [show ((d.toNat : Nat) : Int) = d by omega] at h2
  rw [h2]; congr 1; omega
theorem dl_lt {t : List (List Int)} (h : Sq t) : ∀ {l : List Int} {s : Nat}, s < t.length → Dig t l → dl t s l < t.length
  | [], s, hs, _ => hs
  | d :: l, s, hs, hd => by rw [dl_cons]; exact dl_lt h (h.step hs hd.cons.1).1 hd.cons.2
theorem f59_loop {t : List (List Int)} (h : Sq t) {l : List Int} {k0 : Int → Option Int} (hl : l.length ≤ 1000000) (hd : Dig t l) : ∀ n (i s : Nat), i ≤ l.length → l.length - i < n → s < t.length → f59_i103_2 t l k0 n (s : Int) (i : Int) = k0 ((dl t s (l.drop i) : Nat) : Int) := by
  intro n
  induction n with
  | zero => intro i s _ h; omega
  | succ n ih =>
    intro i s hi hn hs
    conv => lhs; unfold f59_i103_2 f59_i103_2b
    by_cases e : i = l.length
    · subst e; simp [dl_nil]
    · have hi : i < l.length := by omega
      have hx : 0 ≤ l[i] ∧ l[i] < t.length := hd _ (List.getElem_mem hi)
      obtain ⟨h1, h2⟩ := h.step hs hx
      simp only [show (i : Int) < (l.length : Int) by omega, decide_true, cond_true, ix_get hi, Option.bind_some, ix_row hs, h2]
      rw [W_nat (by omega), ih (i + 1) _ hi (by omega) h1, List.drop_eq_getElem_cons hi, dl_cons]
theorem f59_eq {N : Nat} {t : List (List Int)} (h : Sq t) {l : List Int} {s : Nat} (hd : Dig t l) (hs : s < t.length) (hl : l.length ≤ 50) (hN : 100 ≤ N) : f59 N t (s : Int) l = some ((dl t s l : Nat) : Int) := by
  unfold f59
  simp only [joinK]
  have := f59_loop h (k0 := f59_i103_c6 t) (by omega) hd N 0 s (by omega) (by omega) hs
  rw [show ((0 : Nat) : Int) = 0 from rfl] at this
  rw [this]; rfl
theorem f61_loop {t : List (List Int)} (h : Sq t) {l : List Int} {k0 : Int → Option Int} (hl : l.length ≤ 1000000) (hd : Dig t l) : ∀ n (i s : Nat), i ≤ l.length → l.length - i < n → s < t.length → f61_3 t l k0 n (s : Int) (i : Int) = k0 ((dl t s (l.drop i) : Nat) : Int) := by
  intro n
  induction n with
  | zero => intro i s _ h; omega
  | succ n ih =>
    intro i s hi hn hs
    conv => lhs; unfold f61_3 f61_3b
    by_cases e : i = l.length
    · subst e; simp [dl_nil]
    · have hi : i < l.length := by omega
      have hx : 0 ≤ l[i] ∧ l[i] < t.length := hd _ (List.getElem_mem hi)
      obtain ⟨h1, h2⟩ := h.step hs hx
      simp only [show (i : Int) < (l.length : Int) by omega, decide_true, cond_true, ix_get hi, Option.bind_some, ix_row hs, h2]
      rw [W_nat (by omega), ih (i + 1) _ hi (by omega) h1, List.drop_eq_getElem_cons hi, dl_cons]
theorem f61_eq {N : Nat} {t : List (List Int)} (h : Lat t) {l : List Int} (hd : Dig t l) (hl : l.length ≤ 50) (hN : 100 ≤ N) : f61 N t l = some ((dl t 0 l : Nat) : Int) := by
  unfold f61
  simp only [joinK]
  have := f61_loop h.toSq (k0 := f61_c6) (by omega) hd N 0 0 (by omega) (by omega) (by have := h.two; omega)
  rw [show ((0 : Nat) : Int) = 0 from rfl] at this
  rw [this]; rfl
open Classical in
/-- digits that are checked -/
noncomputable def digT (t : List (List Int)) (l : List Int) : Int :=
  if chkT t ≠ 0 then chkT t else if 12 < l.length then 2 else if ∃ i, i < l.length ∧ ¬ (0 ≤ l.getD i 0 ∧ l.getD i 0 < t.length) then 4 else 0
theorem dig_iff {t : List (List Int)} {l : List Int} : Dig t l ↔ ¬ ∃ i, i < l.length ∧ ¬ (0 ≤ l.getD i 0 ∧ l.getD i 0 < t.length) := by
  constructor
  · rintro h ⟨i, hi, hn⟩
    exact hn (h _ (by simp [hi]))
  · intro h x hx
    obtain ⟨i, hi⟩ := List.mem_iff_getElem?.1 hx
    have := (List.getElem?_eq_some_iff.1 hi).1
    by_cases hh : 0 ≤ x ∧ x < t.length
    · exact hh
    · exact absurd ⟨i, this, by simpa [hi] using hh⟩ h
theorem ix_getD {l : List Int} {i : Nat} (h : i < l.length) : ix l (i : Int) = some (l.getD i 0) := by simp [ix_nat, h]
open Classical in
theorem f58_eq {N : Nat} {t : List (List Int)} {l : List Int} (hs : Small t) (hl : l.length ≤ 50) (hN : 500 ≤ N) : f58 N t l = some (digT t l) := by
  unfold f58 digT
  rw [f49_eq hs hN]
  simp only [Option.bind_some]
  by_cases h1 : chkT t = 0
  · rw [if_neg (by simp [h1])]
    simp only [h1, not_true_eq_false, decide_false, cond_false]
    by_cases h2 : 12 < l.length
    · rw [if_pos h2]; simp [show (12 : Int) < (l.length : Int) by omega]
    · rw [if_neg h2]
      simp only [show ¬ (12 : Int) < (l.length : Int) by omega, decide_false, cond_false, joinK]
      have := hs.1
      rw [loop_ex0 (F := f58_i602_i603000102_2 t l N (f58_i602_i603000102_c7 t)) (e := some 4) (k0 := some 0) (p := fun i => ¬ (0 ≤ l.getD i 0 ∧ l.getD i 0 < t.length)) l.length]
      · split <;> rfl
      · intro n i hi
        conv => lhs; unfold f58_i602_i603000102_2 f58_i602_i603000102_2b
        simp only [show (i : Int) < (l.length : Int) by omega, decide_true, cond_true, ix_getD hi, Option.bind_some, f64_eq, W_sub1 (show t.length ≤ 1000000 by omega), show (0 : Int) ≤ (i : Int) by omega]
        rw [W_nat (by omega)]
        by_cases e1 : 0 ≤ l.getD i 0 ∧ l.getD i 0 < t.length
        · rw [if_neg (by simpa using e1), show decide (0 ≤ l.getD i 0 ∧ l.getD i 0 ≤ (t.length : Int) - 1) = true by simp only [decide_eq_true_eq]; omega]; rfl
        · rw [if_pos e1, show decide (0 ≤ l.getD i 0 ∧ l.getD i 0 ≤ (t.length : Int) - 1) = false by simp only [decide_eq_false_iff_not]; omega]; rfl
      · intro n; (conv => lhs; unfold f58_i602_i603000102_2 f58_i602_i603000102_2b); simp; rfl
      · omega
  · rw [if_pos h1]; simp [h1]
theorem f60_skip {t : List (List Int)} {l : List Int} {N : Nat} {k0 : Int → Option Int} {e : Int} (he : e ≠ 0) (hl : l.length ≤ 50) : ∀ n i, i ≤ l.length → l.length - i < n → f60_5 t l N k0 n e (i : Int) = k0 e := by
  intro n
  induction n with
  | zero => intro i _ h; omega
  | succ n ih =>
    intro i hi hn
    conv => lhs; unfold f60_5 f60_5b
    by_cases e1 : i = l.length
    · subst e1; simp
    · simp only [show (i : Int) < (l.length : Int) by omega, decide_true, cond_true, he, decide_false, cond_false]
      rw [W_nat (by omega), ih (i + 1) (by omega) (by omega)]
open Classical in
theorem f60_loop {t : List (List Int)} {l : List Int} {N : Nat} {k0 : Int → Option Int} (ht : t.length ≤ 1000000) (hl : l.length ≤ 50) : ∀ n i, i ≤ l.length → l.length - i < n → f60_5 t l N k0 n 0 (i : Int) = if ∃ j, i ≤ j ∧ j < l.length ∧ ¬ (0 ≤ l.getD j 0 ∧ l.getD j 0 < t.length) then k0 4 else k0 0 := by
  intro n
  induction n with
  | zero => intro i _ h; omega
  | succ n ih =>
    intro i hi hn
    conv => lhs; unfold f60_5 f60_5b
    by_cases e1 : i = l.length
    · subst e1; simp only [Int.lt_irrefl, decide_false, cond_false]
      rw [if_neg]
      rintro ⟨j, h1, h2, _⟩; omega
    · have hi : i < l.length := by omega
      simp only [show (i : Int) < (l.length : Int) by omega, decide_true, cond_true, ix_getD hi, Option.bind_some, f57_eq, W_sub1 ht]
      rw [W_nat (by omega)]
      by_cases e2 : 0 ≤ l.getD i 0 ∧ l.getD i 0 < t.length
      · rw [show decide (0 ≤ l.getD i 0 ∧ l.getD i 0 ≤ (t.length : Int) - 1) = true by simp only [decide_eq_true_eq]; omega]
        simp only [Bool.not_true, cond_false]
        rw [ih (i + 1) (by omega) (by omega)]
        refine iffD ⟨?_, ?_⟩
        · rintro ⟨j, h1, h2⟩; exact ⟨j, by omega, h2⟩
        · rintro ⟨j, h1, h2, h3⟩
          by_cases hj : j = i
          · subst hj; exact absurd e2 h3
          · exact ⟨j, by omega, h2, h3⟩
      · rw [show decide (0 ≤ l.getD i 0 ∧ l.getD i 0 ≤ (t.length : Int) - 1) = false by simp only [decide_eq_false_iff_not]; omega]
        simp only [Bool.not_false, cond_true]
        rw [f60_skip (by decide) hl n (i + 1) (by omega) (by omega), if_pos ⟨i, Nat.le_refl _, hi, e2⟩]
open Classical in
theorem f60_eq {N : Nat} {t : List (List Int)} {l : List Int} (hs : Small t) (hl : l.length ≤ 50) (hN : 500 ≤ N) : f60 N t l = some (digT t l) := by
  unfold f60 digT
  rw [f50_eq hs.1 (by omega)]
  simp only [Option.bind_some, joinK]
  have := hs.1
  by_cases h1 : chkT t = 0
  · rw [if_neg (by simp [h1])]
    simp only [h1, decide_true, cond_true]
    by_cases h2 : 12 < l.length
    · rw [if_pos h2]
      simp only [show (12 : Int) < (l.length : Int) by omega, decide_true, cond_true]
      unfold f60_c4; simp only [joinK]
      have := f60_skip (t := t) (N := N) (k0 := f60_c9) (e := 2) (by decide) hl N 0 (by omega) (by omega)
      rw [show ((0 : Nat) : Int) = 0 from rfl] at this
      rw [this]; rfl
    · rw [if_neg h2]
      simp only [show ¬ (12 : Int) < (l.length : Int) by omega, decide_false, cond_false]
      unfold f60_c4; simp only [joinK]
      have := f60_loop (t := t) (N := N) (k0 := f60_c9) (by omega) hl N 0 (by omega) (by omega)
      rw [show ((0 : Nat) : Int) = 0 from rfl] at this
      rw [this]
      by_cases h3 : ∃ i, i < l.length ∧ ¬ (0 ≤ l.getD i 0 ∧ l.getD i 0 < t.length)
      · obtain ⟨i, h4, h5⟩ := h3
        rw [if_pos ⟨i, by omega, h4, h5⟩, if_pos ⟨i, h4, h5⟩]; rfl
      · rw [if_neg (fun ⟨i, _, h4⟩ => h3 ⟨i, h4⟩), if_neg h3]; rfl
  · rw [if_pos h1]
    simp only [h1, decide_false, cond_false]
    unfold f60_c4; simp only [joinK]
    have := f60_skip (t := t) (N := N) (k0 := f60_c9) (e := chkT t) h1 hl N 0 (by omega) (by omega)
    rw [show ((0 : Nat) : Int) = 0 from rfl] at this
    rw [this]; rfl
theorem digT_ok {t : List (List Int)} {l : List Int} : digT t l = 0 ↔ Lat t ∧ l.length ≤ 12 ∧ Dig t l := by
  unfold digT
  rw [dig_iff, ← chkT_good]
  by_cases h1 : chkT t = 0
  · rw [if_neg (by simp [h1])]
    by_cases h2 : 12 < l.length
    · rw [if_pos h2]
      constructor
      · intro h; exact absurd h (by decide)
      · rintro ⟨_, h, _⟩; omega
    · rw [if_neg h2]
      by_cases h3 : ∃ i, i < l.length ∧ ¬ (0 ≤ l.getD i 0 ∧ l.getD i 0 < t.length)
      · rw [if_pos h3]
        exact ⟨fun h => absurd h (by decide), fun h => absurd h3 h.2.2⟩
      · rw [if_neg h3]
        exact ⟨fun _ => ⟨h1, by omega, h3⟩, fun _ => rfl⟩
  · rw [if_pos h1]
    exact ⟨fun h => absurd h h1, fun h => absurd h.1 h1⟩
end Go.Vc
/-
  PLAIN LAWS OF SERIAL, 5: the law of codes.
-/
namespace Go.Vc
set_option linter.unusedVariables false
set_option linter.unnecessarySimpa false
set_option linter.unusedSimpArgs false
set_option linter.unusedSimpArgs false
theorem Lat.rowInj {t : List (List Int)} (h : Lat t) {s i j : Nat} (hs : s < t.length) (hi : i < t.length) (hj : j < t.length) (e : en t s i = en t s j) : i = j := by
  rcases Nat.lt_trichotomy i j with h1 | h1 | h1
  · exact absurd ⟨s, hs, j, hj, i, h1, .inl e.symm⟩ h.once
  · exact h1
  · exact absurd ⟨s, hs, i, hi, j, h1, .inl e⟩ h.once
theorem Lat.colInj {t : List (List Int)} (h : Lat t) {s i j : Nat} (hs : s < t.length) (hi : i < t.length) (hj : j < t.length) (e : en t i s = en t j s) : i = j := by
  rcases Nat.lt_trichotomy i j with h1 | h1 | h1
  · exact absurd ⟨s, hs, j, hj, i, h1, .inr e.symm⟩ h.once
  · exact h1
  · exact absurd ⟨s, hs, i, hi, j, h1, .inr e⟩ h.once
theorem dl_inj {t : List (List Int)} (h : Lat t) : ∀ {l : List Int} {a b : Nat}, a < t.length → b < t.length → Dig t l → dl t a l = dl t b l → a = b
  | [], a, b, _, _, _, e => e
  | d :: l, a, b, ha, hb, hd, e => by
    rw [dl_cons, dl_cons] at e
    have hd1 := hd.cons.1
    have := dl_inj h (h.step ha hd1).1 (h.step hb hd1).1 hd.cons.2 e
    have r1 := h.lo a d.toNat ha (by omega)
    have r2 := h.lo b d.toNat hb (by omega)
    exact h.colInj (s := d.toNat) (by omega) ha hb (by omega)
/-- a digit that leads to a state -/
theorem Lat.digit {t : List (List Int)} (h : Lat t) {s : Nat} {post : List Int} (hs : s < t.length) (hp : Dig t post) {y : Nat} (hy : y < t.length) : ∃ d, d < t.length ∧ dl t (en t s d).toNat post = y :=
  pig t.length (fun d => dl t (en t s d).toNat post) (fun i hi => dl_lt h.toSq (by have := h.lo s i hs hi; omega) hp)
    (fun i j hi hj e => by
      have r1 := h.lo s i hs hi
      have r2 := h.lo s j hs hj
      have := dl_inj h (by omega) (by omega) hp e
      exact h.rowInj hs hi hj (by omega)) y hy
theorem Lat.digit1 {t : List (List Int)} (h : Lat t) {s : Nat} {post : List Int} (hs : s < t.length) (hp : Dig t post) {i j : Nat} (hi : i < t.length) (hj : j < t.length) (e : dl t (en t s i).toNat post = dl t (en t s j).toNat post) : i = j := by
  have r1 := h.lo s i hs hi
  have r2 := h.lo s j hs hj
  have := dl_inj h (by omega) (by omega) hp e
  exact h.rowInj hs hi hj (by omega)
open Classical in
theorem f21_eq {N : Nat} {t : List (List Int)} {l : List Int} (hs : Small t) (hl : l.length ≤ 40) (hN : 500 ≤ N) : f21 N t l = some (if digT t l = 0 then (((dl t 0 l : Nat) : Int), (0 : Int)) else (0, digT t l)) := by
  unfold f21
  rw [f58_eq hs (by omega) hN]
  simp only [Option.bind_some]
  by_cases h : digT t l = 0
  · obtain ⟨h1, h2, h3⟩ := digT_ok.1 h
    have h0 := h1.two
    rw [show (0 : Int) = ((0 : Nat) : Int) from rfl, f59_eq h1.toSq h3 (by omega) (by omega) (by omega)]
    simp [h]
  · simp [h]
open Classical in
theorem f22_eq {N : Nat} {t : List (List Int)} {l : List Int} (hs : Small t) (hl : l.length ≤ 40) (hN : 500 ≤ N) : f22 N t l = some (if digT t l = 0 then (((dl t 0 l : Nat) : Int), (0 : Int)) else (0, digT t l)) := by
  unfold f22
  rw [f60_eq hs (by omega) hN]
  simp only [Option.bind_some]
  by_cases h : digT t l = 0
  · obtain ⟨h1, h2, h3⟩ := digT_ok.1 h
    rw [f61_eq h1 h3 (by omega) (by omega)]
    simp [h]
  · simp [h]
theorem digits_eq {N : Nat} {t : List (List Int)} {l : List Int} (hs : Small t) (hl : l.length ≤ 40) (hN : 500 ≤ N) :
    ∃ r, f23 N t l = some r ∧ f24 N t l = some r ∧ (digT t l ≠ 0 → r = (0, digT t l)) ∧ (digT t l = 0 → r.2 = 0 ∧ ∃ d : Nat, d < t.length ∧ r.1 = (d : Int) ∧ en t (dl t 0 l) d = 0) := by
  unfold f23 f24
  rw [f21_eq hs hl hN, f22_eq hs hl hN]
  simp only [Option.bind_some]
  by_cases h : digT t l = 0
  · obtain ⟨h1, h2, h3⟩ := digT_ok.1 h
    have h0 := h1.two
    have hlen := h1.hi
    have hs : dl t 0 l < t.length := dl_lt h1.toSq (by omega) h3
    rw [if_pos h]
    simp only [not_true_eq_false, decide_false, cond_false, ix_row hs, Option.bind_some, joinK]
    obtain ⟨m, hm, hm2⟩ := h1.digit hs (post := []) (fun x hx => by cases hx) (y := 0) (by omega)
    have hm3 : en t (dl t 0 l) m = 0 := by have := h1.lo _ m hs hm; rw [dl_nil] at hm2; omega
    have a1 := loop_find (F := f62_2 (row t (dl t 0 l)) 0 f62_c7) (k := fun i => some ((i : Nat) : Int)) (p := fun i => en t (dl t 0 l) i = 0) m hm3 (by
      intro n i hi hp
      conv => lhs; unfold f62_2 f62_2b
      simp only [h1.len _ hs, show (i : Int) < (t.length : Int) by omega, decide_true, cond_true, h1.ix hs (show i < t.length by omega), Option.bind_some, show ¬ (0 : Int) = en t (dl t 0 l) i from fun hh => hp hh.symm, decide_false, cond_false]
      rw [W_nat (by omega)]) (by
      intro n i hi hp
      conv => lhs; unfold f62_2 f62_2b
      simp only [h1.len _ hs, show (i : Int) < (t.length : Int) by omega, decide_true, cond_true, h1.ix hs (show i < t.length by omega), Option.bind_some, show (0 : Int) = en t (dl t 0 l) i from hp.symm, decide_true]) N 0 (by omega) (by omega)
    obtain ⟨j, _, hj, pj, _, ej⟩ := a1
    have a2 := loop_find (F := f24_5 t (((dl t 0 l : Nat) : Int), (0 : Int)) f24_c7) (k := fun i => f24_c7 ((i : Nat) : Int)) (p := fun i => en t (dl t 0 l) i = 0) m hm3 (by
      intro n i hi hp
      conv => lhs; unfold f24_5 f24_5b
      simp only [ix_row hs, Option.bind_some, h1.ix hs (show i < t.length by omega), hp, not_false_eq_true, decide_true, cond_true]
      rw [W_nat (by omega)]) (by
      intro n i hi hp
      conv => lhs; unfold f24_5 f24_5b
      simp only [ix_row hs, Option.bind_some, h1.ix hs (show i < t.length by omega), hp, not_true_eq_false, decide_false, cond_false]) N 0 (by omega) (by omega)
    obtain ⟨j2, _, hj2, pj2, _, ej2⟩ := a2
    have hjj : j2 = j := h1.rowInj hs (by omega) (by omega) (pj2.trans pj.symm)
    subst hjj
    refine ⟨((j2 : Int), 0), ?_, ?_, fun hh => absurd h hh, fun _ => ⟨rfl, j2, by omega, rfl, pj⟩⟩
    · unfold f62
      simp only [joinK]
      rw [show (0 : Int) = ((0 : Nat) : Int) from rfl] at ej ⊢
      rw [ej]; rfl
    · rw [show (0 : Int) = ((0 : Nat) : Int) from rfl] at ej2 ⊢
      rw [ej2]; rfl
  · rw [if_neg h]
    exact ⟨(0, digT t l), by simp [h], by simp [h], fun _ => rfl, fun hh => absurd hh h⟩
open Classical in
/-- codes that are checked: digits, and two of them -/
noncomputable def codT (t : List (List Int)) (l : List Int) : Int := if chkT t ≠ 0 then chkT t else if l.length < 2 then 1 else digT t l
open Classical in
theorem f63_eq {N : Nat} {t : List (List Int)} {l : List Int} (hs : Small t) (hl : l.length ≤ 50) (hN : 500 ≤ N) : f63 N t l = some (codT t l) := by
  unfold f63 codT
  rw [f49_eq hs hN]
  simp only [Option.bind_some]
  by_cases h1 : chkT t = 0
  · by_cases h2 : l.length < 2
    · simp [h1, h2, show (l.length : Int) < 2 by omega]
    · rw [f58_eq hs hl hN]
      simp [h1, h2, show ¬ (l.length : Int) < 2 by omega]
  · simp [h1]
open Classical in
theorem f66_eq {N : Nat} {t : List (List Int)} {l : List Int} (hs : Small t) (hl : l.length ≤ 50) (hN : 500 ≤ N) : f66 N t l = some (codT t l) := by
  unfold f66 codT
  rw [f50_eq hs.1 (by omega)]
  simp only [Option.bind_some]
  by_cases h1 : chkT t = 0
  · by_cases h2 : l.length < 2
    · simp [h1, h2, show (l.length : Int) < 2 by omega]
    · rw [f60_eq hs hl hN]
      simp [h1, h2, show ¬ (l.length : Int) < 2 by omega]
  · simp [h1]
theorem codT_ok {t : List (List Int)} {l : List Int} : codT t l = 0 ↔ Lat t ∧ 2 ≤ l.length ∧ l.length ≤ 12 ∧ Dig t l := by
  unfold codT
  by_cases h1 : chkT t = 0
  · rw [if_neg (by simp [h1])]
    by_cases h2 : l.length < 2
    · rw [if_pos h2]
      exact ⟨fun h => absurd h (by decide), fun h => by omega⟩
    · rw [if_neg h2, digT_ok]
      exact ⟨fun h => ⟨h.1, by omega, h.2⟩, fun h => ⟨h.1, h.2.2⟩⟩
  · rw [if_pos h1, ← chkT_good]
    exact ⟨fun h => absurd h h1, fun h => absurd h.1 h1⟩
open Classical in
/-- a right code -/
noncomputable def rightT (t : List (List Int)) (l : List Int) : Int := if codT t l = 0 then if dl t 0 l = 0 then 0 else 13 else codT t l
theorem f27_eq {N : Nat} {t : List (List Int)} {l : List Int} (hs : Small t) (hl : l.length ≤ 40) (hN : 500 ≤ N) : f27 N t l = some (rightT t l) := by
  unfold f27 rightT
  rw [f63_eq hs (by omega) hN]
  simp only [Option.bind_some]
  by_cases h : codT t l = 0
  · obtain ⟨h1, h2, h3, h4⟩ := codT_ok.1 h
    have h0 := h1.two
    have := f59_eq (N := N) h1.toSq h4 (show 0 < t.length by omega) (by omega) (by omega)
    rw [show ((0 : Nat) : Int) = 0 from rfl] at this
    rw [this]
    by_cases h5 : dl t 0 l = 0 <;> simp [h, h5]
  · simp [h]
theorem f28_eq {N : Nat} {t : List (List Int)} {l : List Int} (hs : Small t) (hl : l.length ≤ 40) (hN : 500 ≤ N) : f28 N t l = some (rightT t l) := by
  unfold f28 rightT
  rw [f66_eq hs (by omega) hN]
  simp only [Option.bind_some]
  by_cases h : codT t l = 0
  · obtain ⟨h1, h2, h3, h4⟩ := codT_ok.1 h
    rw [f61_eq h1 h4 (by omega) (by omega)]
    by_cases h5 : dl t 0 l = 0 <;> simp [h, h5]
  · simp [h]
/-- digits with one of them changed -/
theorem set_split {l : List Int} {k : Nat} (h : k < l.length) (d : Int) : l.set k d = l.take k ++ d :: l.drop (k + 1) := by
  rw [List.set_eq_take_append_cons_drop, if_pos h]
theorem Dig.take {t : List (List Int)} {l : List Int} (h : Dig t l) (k : Nat) : Dig t (l.take k) := fun x hx => h x (List.mem_of_mem_take hx)
theorem Dig.drop {t : List (List Int)} {l : List Int} (h : Dig t l) (k : Nat) : Dig t (l.drop k) := fun x hx => h x (List.mem_of_mem_drop hx)
theorem Dig.set {t : List (List Int)} {l : List Int} (h : Dig t l) {k : Nat} {d : Int} (hd : 0 ≤ d ∧ d < t.length) : Dig t (l.set k d) := fun x hx => by
  rcases List.mem_or_eq_of_mem_set hx with hx | rfl
  · exact h x hx
  · exact hd
theorem dl_set {t : List (List Int)} {l : List Int} {k d : Nat} (h : k < l.length) : dl t 0 (l.set k (d : Int)) = dl t (en t (dl t 0 (l.take k)) d).toNat (l.drop (k + 1)) := by
  rw [set_split h, dl_append, dl_cons]; rfl
theorem f67_eq {N : Nat} {l : List Int} {k : Nat} {d : Int} (hl : l.length ≤ 50) (hk : k < l.length) : f67 N l (k : Int) d = some (l.set k d) := by
  unfold f67
  rw [app_ok (by simp; omega) (by simp; omega)]
  simp only [List.nil_append, Option.bind_some, ix_get hk]
  unfold setx
  rw [if_pos ⟨by omega, by omega⟩]
  simp
open Classical in
noncomputable def resT (t : List (List Int)) (l : List Int) (at' : Int) : Int := if codT t l ≠ 0 then codT t l else if 0 ≤ at' ∧ at' < l.length then 0 else 5
theorem sub_pre {l : List Int} {k : Nat} (hk : k ≤ l.length) : sub l 0 (k : Int) = some (l.take k) := by
  have := sub_nat (l := l) (a := 0) (b := k) (by omega) hk
  simpa using this
theorem sub_post {l : List Int} {k : Nat} (hk : k ≤ l.length) : sub l (k : Int) (l.length : Int) = some (l.drop k) := by
  have := sub_nat (l := l) (a := k) (b := l.length) hk (by omega)
  simpa using this
theorem f65_eq {N : Nat} {t : List (List Int)} {l : List Int} {k : Nat} (h1 : Lat t) (h4 : Dig t l) (hl : l.length ≤ 40) (hk : k < l.length) (hN : 500 ≤ N) :
    ∃ d : Nat, d < t.length ∧ dl t 0 (l.set k (d : Int)) = 0 ∧ f65 N t l (k : Int) = some (d : Int) := by
  have h0 := h1.two
  have hlen := h1.hi
  have hsk : dl t 0 (l.take k) < t.length := dl_lt h1.toSq (by omega) (h4.take k)
  obtain ⟨m, hm, hm2⟩ := h1.digit hsk (h4.drop (k + 1)) (y := 0) (by omega)
  have a1 := loop_find (F := f65_i205_2 t l (k : Int) N (row t (dl t 0 (l.take k))) (f65_i205_c7 t l (k : Int))) (k := fun i => some ((i : Nat) : Int)) (p := fun i => dl t 0 (l.set k (i : Int)) = 0) m (by rw [dl_set hk]; exact hm2) (by
    intro n i hi hp
    conv => lhs; unfold f65_i205_2 f65_i205_2b
    have r := h1.lo _ i hsk (by omega)
    have hq : f59 N t (en t (dl t 0 (l.take k)) i) (l.drop (k + 1)) = some ((dl t 0 (l.set k (i : Int)) : Nat) : Int) := by
      rw [dl_set hk]
      have := f59_eq (N := N) h1.toSq (h4.drop (k + 1)) (show (en t (dl t 0 (l.take k)) i).toNat < t.length by omega) (by simp; omega) (by omega)
      rw [show (((en t (dl t 0 (l.take k)) i).toNat : Nat) : Int) = en t (dl t 0 (l.take k)) i by omega] at this
      exact this
    simp only [h1.len _ hsk, show (i : Int) < (t.length : Int) by omega, decide_true, cond_true, h1.ix hsk (show i < t.length by omega), Option.bind_some, W_nat (show k < 9223372036854775807 by omega), sub_post (show k + 1 ≤ l.length by omega), hq,
      show ¬ ((dl t 0 (l.set k (i : Int)) : Nat) : Int) = 0 by omega, decide_false, cond_false]
    rw [W_nat (by omega)]) (by
    intro n i hi hp
    conv => lhs; unfold f65_i205_2 f65_i205_2b
    have r := h1.lo _ i hsk (by omega)
    have hq : f59 N t (en t (dl t 0 (l.take k)) i) (l.drop (k + 1)) = some ((dl t 0 (l.set k (i : Int)) : Nat) : Int) := by
      rw [dl_set hk]
      have := f59_eq (N := N) h1.toSq (h4.drop (k + 1)) (show (en t (dl t 0 (l.take k)) i).toNat < t.length by omega) (by simp; omega) (by omega)
      rw [show (((en t (dl t 0 (l.take k)) i).toNat : Nat) : Int) = en t (dl t 0 (l.take k)) i by omega] at this
      exact this
    simp only [h1.len _ hsk, show (i : Int) < (t.length : Int) by omega, decide_true, cond_true, h1.ix hsk (show i < t.length by omega), Option.bind_some, W_nat (show k < 9223372036854775807 by omega), sub_post (show k + 1 ≤ l.length by omega), hq,
      show ((dl t 0 (l.set k (i : Int)) : Nat) : Int) = 0 by omega]) N 0 (by omega) (by omega)
  obtain ⟨j, _, hj, pj, _, ej⟩ := a1
  refine ⟨j, by omega, pj, ?_⟩
  unfold f65
  rw [sub_pre (by omega)]
  simp only [Option.bind_some]
  have := f59_eq (N := N) h1.toSq (h4.take k) (show 0 < t.length by omega) (by simp; omega) (by omega)
  rw [show ((0 : Nat) : Int) = 0 from rfl] at this
  rw [this]
  simp only [Option.bind_some, ix_row hsk, joinK]
  exact ej
theorem fix1 {t : List (List Int)} {l : List Int} {k i j : Nat} (h1 : Lat t) (h4 : Dig t l) (hk : k < l.length) (hi : i < t.length) (hj : j < t.length) (e1 : dl t 0 (l.set k (i : Int)) = 0) (e2 : dl t 0 (l.set k (j : Int)) = 0) : i = j := by
  have h0 := h1.two
  rw [dl_set hk] at e1 e2
  exact h1.digit1 (dl_lt h1.toSq (by omega) (h4.take k)) (h4.drop (k + 1)) hi hj (e1.trans e2.symm)
theorem restore_eq {N : Nat} {t : List (List Int)} {l : List Int} {a : Int} (hs : Small t) (hl : l.length ≤ 40) (hN : 500 ≤ N) :
    ∃ r, f25 N t l a = some r ∧ f26 N t l a = some r ∧ (resT t l a ≠ 0 → r = (0, resT t l a)) ∧ (resT t l a = 0 → r.2 = 0 ∧ ∃ d : Nat, d < t.length ∧ r.1 = (d : Int) ∧ dl t 0 (l.set a.toNat (d : Int)) = 0) := by
  unfold f25 f26 resT
  rw [f63_eq hs (by omega) hN, f66_eq hs (by omega) hN]
  simp only [Option.bind_some, joinK]
  by_cases h : codT t l = 0
  · obtain ⟨h1, h2, h3, h4⟩ := codT_ok.1 h
    have h0 := h1.two
    have hlen := h1.hi
    rw [f64_eq, f57_eq, if_neg (by simp [h])]
    simp only [h, not_true_eq_false, decide_false, decide_true, cond_false, cond_true, Option.bind_some, W_sub1 (show l.length ≤ 1000000 by omega)]
    by_cases h5 : 0 ≤ a ∧ a < l.length
    · rw [if_pos h5, show decide (0 ≤ a ∧ a ≤ (l.length : Int) - 1) = true by simp only [decide_eq_true_eq]; omega]
      simp only [Bool.not_true, cond_false]
      obtain ⟨k, rfl⟩ : ∃ k : Nat, a = (k : Int) := ⟨a.toNat, by omega⟩
      have hk : k < l.length := by omega
      obtain ⟨d, hd, pd, ed⟩ := f65_eq (N := N) h1 h4 hl hk hN
      rw [ed]
      unfold f26_c4
      simp only [not_true_eq_false, decide_false, cond_false, joinK, Option.bind_some]
      have a2 := loop_find (F := f26_7 t l (k : Int) N f26_c9) (k := fun i => f26_c9 ((i : Nat) : Int)) (p := fun i => dl t 0 (l.set k (i : Int)) = 0) d pd (by
        intro n i hi hp
        conv => lhs; unfold f26_7 f26_7b
        rw [f67_eq (by omega) hk]
        simp only [Option.bind_some]
        rw [f61_eq h1 (h4.set (by omega)) (by simp; omega) (by omega)]
        simp only [Option.bind_some, show ¬ ((dl t 0 (l.set k (i : Int)) : Nat) : Int) = 0 by omega, not_false_eq_true, decide_true, cond_true]
        rw [W_nat (by omega)]) (by
        intro n i hi hp
        conv => lhs; unfold f26_7 f26_7b
        rw [f67_eq (by omega) hk]
        simp only [Option.bind_some]
        rw [f61_eq h1 (h4.set (by omega)) (by simp; omega) (by omega)]
        simp only [Option.bind_some, show ((dl t 0 (l.set k (i : Int)) : Nat) : Int) = 0 by omega, not_true_eq_false, decide_false, cond_false]) N 0 (by omega) (by omega)
      obtain ⟨j, _, hj, pj, _, ej⟩ := a2
      have := fix1 h1 h4 hk (by omega) hd pj pd
      subst this
      refine ⟨((j : Int), 0), rfl, ?_, fun hh => absurd rfl hh, fun _ => ⟨rfl, j, hd, rfl, by simpa using pd⟩⟩
      exact ej.trans rfl
    · rw [if_neg h5, show decide (0 ≤ a ∧ a ≤ (l.length : Int) - 1) = false by simp only [decide_eq_false_iff_not]; omega]
      refine ⟨(0, 5), rfl, rfl, fun _ => rfl, fun hh => absurd hh (by decide)⟩
  · rw [if_pos h]
    refine ⟨(0, codT t l), by simp [h], ?_, fun _ => rfl, fun hh => absurd hh h⟩
    simp only [h, decide_false, cond_false]
    unfold f26_c4
    simp [h]
theorem f4_true {N : Nat} {t : List (List Int)} {l : List Int} {a : Int} : f4 (N + 600) t l a = some true := by
  unfold f4
  obtain ⟨b, hb, hb2⟩ := f20_eq (N := N + 600) (t := t) (by omega)
  have hw : f15 (N + 600) = some true := f15_any (N + 540)
  rw [hb, hw]
  simp only [Option.bind_some]
  cases b with
  | true => rfl
  | false =>
    have hs := hb2 rfl
    by_cases h : 40 < (l.length : Int)
    · simp [h]
    · have hl : l.length ≤ 40 := by omega
      obtain ⟨r, h1, h2, _⟩ := digits_eq (N := N + 600) hs hl (by omega)
      obtain ⟨r2, h3, h4, _⟩ := restore_eq (N := N + 600) (a := a) hs hl (by omega)
      rw [f21_eq hs hl (by omega), f22_eq hs hl (by omega), h1, h2, h3, h4, f27_eq hs hl (by omega), f28_eq hs hl (by omega)]
      simp [h]
end Go.Vc
namespace Go.Vc
open Go.Proofs
set_option linter.unusedVariables false
set_option linter.unnecessarySimpa false
set_option linter.unusedSimpArgs false
def f69 (N : Nat) (a0 : List (List Int)) (a1 : List Int) : Option (Int) :=
 (f66 N a0 a1).bind fun x1 =>
 bif decide (x1 = (0 : Int)) then ((f61 N a0 a1).bind fun x2 =>
 bif decide (x2 = (0 : Int)) then (some ((20 : Int)))
 else (some (x1)))
 else (some (x1))
end Go.Vc
namespace Go.Vc
open Go.Proofs
set_option linter.unusedVariables false
set_option linter.unnecessarySimpa false
set_option linter.unusedSimpArgs false
def f30_c13 (out7 : List Fix) : Option ((List Fix) × Int) :=
 some (out7, (0 : Int))
def f30_c7 (a0 : List (List Int)) (a1 : List Int) (i8 : Int) (r6 : (List Fix) → Int → Option ((List Fix) × Int)) (out7' : List Fix) : Option ((List Fix) × Int) :=
 r6 (out7') (W (i8 + (1 : Int)))
def f30_9b (r9 : (List Fix) → Int → Option ((List Fix) × Int)) (a0 : List (List Int)) (a1 : List Int) (N : Nat) (i8 : Int) (k1 : (List Fix) → Option ((List Fix) × Int)) (out7' : List Fix) (d9 : Int) : Option ((List Fix) × Int) :=
 bif decide (d9 < (List.length a0 : Int)) then ((f67 N a1 i8 d9).bind fun x2 =>
 (f61 N a0 x2).bind fun x3 =>
 bif decide (x3 = (0 : Int)) then ((app 16 (out7') [(Fix.mk i8 d9)]).bind fun x4 =>
 r9 x4 (W (d9 + (1 : Int))))
 else (r9 (out7') (W (d9 + (1 : Int)))))
 else (k1 (out7'))
def f30_9 (a0 : List (List Int)) (a1 : List Int) (N : Nat) (i8 : Int) (k1 : (List Fix) → Option ((List Fix) × Int)) : Nat → (List Fix) → Int → Option ((List Fix) × Int)
  | 0, _, _ => none
  | n + 1, out7', d9 => f30_9b (f30_9 a0 a1 N i8 k1 n) a0 a1 N i8 k1 out7' d9
def f30_6b (r6 : (List Fix) → Int → Option ((List Fix) × Int)) (a0 : List (List Int)) (a1 : List Int) (N : Nat) (k0 : (List Fix) → Option ((List Fix) × Int)) (out7 : List Fix) (i8 : Int) : Option ((List Fix) × Int) :=
 bif decide (i8 < (List.length a1 : Int)) then (joinK (f30_c7 a0 a1 i8 r6) fun k1 =>
 f30_9 a0 a1 N i8 k1 N out7 (0 : Int))
 else (k0 out7)
def f30_6 (a0 : List (List Int)) (a1 : List Int) (N : Nat) (k0 : (List Fix) → Option ((List Fix) × Int)) : Nat → (List Fix) → Int → Option ((List Fix) × Int)
  | 0, _, _ => none
  | n + 1, out7, i8 => f30_6b (f30_6 a0 a1 N k0 n) a0 a1 N k0 out7 i8
def f30 (N : Nat) (a0 : List (List Int)) (a1 : List Int) : Option ((List Fix) × Int) :=
 (f69 N a0 a1).bind fun x1 =>
 bif decide (¬ x1 = (0 : Int)) then (some ([], x1))
 else (joinK f30_c13 fun k0 =>
 f30_6 a0 a1 N k0 N [] (0 : Int))
end Go.Vc
namespace Go.Vc
open Go.Proofs
set_option linter.unusedVariables false
set_option linter.unnecessarySimpa false
set_option linter.unusedSimpArgs false
def f32_c10 (out7 : List Int) : Option ((List Int) × Int) :=
 some (out7, (0 : Int))
def f32_6b (r6 : (List Int) → Int → Option ((List Int) × Int)) (a0 : List (List Int)) (a1 : List Int) (N : Nat) (k0 : (List Int) → Option ((List Int) × Int)) (out7 : List Int) (i8 : Int) : Option ((List Int) × Int) :=
 bif decide ((W (i8 + (1 : Int))) < (List.length a1 : Int)) then ((ix a1 (W (i8 + (1 : Int)))).bind fun x2 =>
 (f67 N a1 i8 x2).bind fun x3 =>
 (ix a1 i8).bind fun x4 =>
 (f67 N x3 (W (i8 + (1 : Int))) x4).bind fun x5 =>
 (f61 N a0 x5).bind fun x6 =>
 bif decide (x6 = (0 : Int)) then ((app 8 out7 [i8]).bind fun x7 =>
 r6 x7 (W (i8 + (1 : Int))))
 else (r6 out7 (W (i8 + (1 : Int)))))
 else (k0 out7)
def f32_6 (a0 : List (List Int)) (a1 : List Int) (N : Nat) (k0 : (List Int) → Option ((List Int) × Int)) : Nat → (List Int) → Int → Option ((List Int) × Int)
  | 0, _, _ => none
  | n + 1, out7, i8 => f32_6b (f32_6 a0 a1 N k0 n) a0 a1 N k0 out7 i8
def f32 (N : Nat) (a0 : List (List Int)) (a1 : List Int) : Option ((List Int) × Int) :=
 (f69 N a0 a1).bind fun x1 =>
 bif decide (¬ x1 = (0 : Int)) then (some ([], x1))
 else (joinK f32_c10 fun k0 =>
 f32_6 a0 a1 N k0 N [] (0 : Int))
end Go.Vc
namespace Go.Vc
open Go.Proofs
set_option linter.unusedVariables false
set_option linter.unnecessarySimpa false
set_option linter.unusedSimpArgs false
def f5 (N : Nat) (a0 : List (List Int)) (a1 : List Int) : Option (Bool) :=
 (f20 N a0).bind fun x1 =>
 bif x1 then ((f15 N ).bind fun x2 =>
 some (x2))
 else (bif decide ((40 : Int) < (List.length a1 : Int)) then ((f15 N ).bind fun x3 =>
 some (x3))
 else ((f29 N a0 a1).bind fun x4 =>
 (f30 N a0 a1).bind fun x5 =>
 (f31 N a0 a1).bind fun x6 =>
 (f32 N a0 a1).bind fun x7 =>
 (f33 N x4.1 x5.1).bind fun x8 =>
 bif x8 then (bif decide (x4.2 = x5.2) then ((f34 N x6.1 x7.1).bind fun x9 =>
 bif x9 then (bif decide (x6.2 = x7.2) then ((f15 N ).bind fun x10 =>
 some (x10))
 else (some (false)))
 else (some (false)))
 else (some (false)))
 else (some (false))))
end Go.Vc
/-
  PLAIN LAWS OF SERIAL, 6: fixes, and exchanged neighbours.
-/
namespace Go.Vc
set_option linter.unusedVariables false
set_option linter.unnecessarySimpa false
set_option linter.unusedSimpArgs false
set_option linter.unusedSimpArgs false
theorem f34_same {N : Nat} {a : List Int} (h : a.length ≤ 1000) (hN : 2000 ≤ N) : f34 N a a = some true := by
  unfold f34
  simp only [not_true_eq_false, decide_false, cond_false, joinK]
  rw [loop_ex0 (F := f34_4 a a f34_c8) (e := some false) (k0 := f34_c8) (p := fun _ => False) a.length]
  · rw [if_neg (by rintro ⟨_, _, h⟩; exact h)]; rfl
  · intro n i hi
    conv => lhs; unfold f34_4 f34_4b
    simp only [show (i : Int) < (a.length : Int) by omega, decide_true, cond_true, ix_get hi, Option.bind_some, not_true_eq_false, decide_false, cond_false]
    rw [W_nat (by omega)]; simp
  · intro n; (conv => lhs; unfold f34_4 f34_4b); simp
  · omega
theorem f33_same {N : Nat} {a : List Fix} (h : a.length ≤ 1000) (hN : 2000 ≤ N) : f33 N a a = some true := by
  unfold f33
  simp only [not_true_eq_false, decide_false, cond_false, joinK]
  rw [loop_ex0 (F := f33_4 a a f33_c8) (e := some false) (k0 := f33_c8) (p := fun _ => False) a.length]
  · rw [if_neg (by rintro ⟨_, _, h⟩; exact h)]; rfl
  · intro n i hi
    conv => lhs; unfold f33_4 f33_4b
    simp only [show (i : Int) < (a.length : Int) by omega, decide_true, cond_true, ix_get hi, Option.bind_some, Bool.and_self, Bool.not_true, decide_false, cond_false]
    rw [W_nat (by omega)]; simp
  · intro n; (conv => lhs; unfold f33_4 f33_4b); simp
  · omega
open Classical in
noncomputable def fixT (t : List (List Int)) (l : List Int) : Int := if codT t l = 0 then if dl t 0 l = 0 then 20 else 0 else codT t l
theorem f68_eq {N : Nat} {t : List (List Int)} {l : List Int} (hs : Small t) (hl : l.length ≤ 40) (hN : 500 ≤ N) : f68 N t l = some (fixT t l) := by
  unfold f68 fixT
  rw [f63_eq hs (by omega) hN]
  simp only [Option.bind_some]
  by_cases h : codT t l = 0
  · obtain ⟨h1, h2, h3, h4⟩ := codT_ok.1 h
    have h0 := h1.two
    have := f59_eq (N := N) h1.toSq h4 (show 0 < t.length by omega) (by omega) (by omega)
    rw [show ((0 : Nat) : Int) = 0 from rfl] at this
    rw [this]
    by_cases h5 : dl t 0 l = 0 <;> simp [h, h5]
  · simp [h]
theorem f69_eq {N : Nat} {t : List (List Int)} {l : List Int} (hs : Small t) (hl : l.length ≤ 40) (hN : 500 ≤ N) : f69 N t l = some (fixT t l) := by
  unfold f69 fixT
  rw [f66_eq hs (by omega) hN]
  simp only [Option.bind_some]
  by_cases h : codT t l = 0
  · obtain ⟨h1, h2, h3, h4⟩ := codT_ok.1 h
    rw [f61_eq h1 h4 (by omega) (by omega)]
    by_cases h5 : dl t 0 l = 0 <;> simp [h, h5]
  · simp [h]
theorem fixT_ok {t : List (List Int)} {l : List Int} : fixT t l = 0 ↔ (Lat t ∧ 2 ≤ l.length ∧ l.length ≤ 12 ∧ Dig t l) ∧ dl t 0 l ≠ 0 := by
  unfold fixT
  rw [← codT_ok]
  by_cases h : codT t l = 0
  · by_cases h2 : dl t 0 l = 0
    · simp [h, h2]
    · simp [h, h2]
  · simp [h]
/-- the digit that makes a code right -/
noncomputable def fx (t : List (List Int)) (l : List Int) (k : Nat) : Nat := Classical.epsilon fun d => d < t.length ∧ dl t 0 (l.set k ((d : Nat) : Int)) = 0
theorem fx_of {t : List (List Int)} {l : List Int} {k : Nat} (h1 : Lat t) (h4 : Dig t l) (hk : k < l.length) : fx t l k < t.length ∧ dl t 0 (l.set k ((fx t l k : Nat) : Int)) = 0 := by
  have h0 := h1.two
  obtain ⟨m, hm, hm2⟩ := h1.digit (s := dl t 0 (l.take k)) (dl_lt h1.toSq (by omega) (h4.take k)) (h4.drop (k + 1)) (y := 0) (by omega)
  exact Classical.epsilon_spec (p := fun d => d < t.length ∧ dl t 0 (l.set k ((d : Nat) : Int)) = 0) ⟨m, hm, by rw [dl_set hk]; exact hm2⟩
theorem fx_eq {t : List (List Int)} {l : List Int} {k d : Nat} (h1 : Lat t) (h4 : Dig t l) (hk : k < l.length) (hd : d < t.length) (e : dl t 0 (l.set k ((d : Nat) : Int)) = 0) : d = fx t l k := by
  obtain ⟨a, b⟩ := fx_of h1 h4 hk
  exact fix1 h1 h4 hk hd a e b
noncomputable def fxL (t : List (List Int)) (l : List Int) (m : Nat) : List Fix := (List.range m).map fun (k : Nat) => Fix.mk (k : Int) ((fx t l k : Nat) : Int)
theorem fxL_succ {t : List (List Int)} {l : List Int} {m : Nat} : fxL t l (m + 1) = fxL t l m ++ [Fix.mk (m : Int) ((fx t l m : Nat) : Int)] := by
  simp [fxL, List.range_succ]
theorem fxL_len {t : List (List Int)} {l : List Int} {m : Nat} : (fxL t l m).length = m := by simp [fxL]
open Classical in
theorem f29_eq {N : Nat} {t : List (List Int)} {l : List Int} (hs : Small t) (hl : l.length ≤ 40) (hN : 500 ≤ N) : f29 N t l = some (if fixT t l = 0 then (fxL t l l.length, (0 : Int)) else ([], fixT t l)) := by
  unfold f29
  rw [f68_eq hs hl hN]
  simp only [Option.bind_some]
  by_cases h : fixT t l = 0
  · obtain ⟨⟨h1, h2, h3, h4⟩, h5⟩ := fixT_ok.1 h
    rw [if_pos h]
    simp only [h, not_true_eq_false, decide_false, cond_false, joinK]
    obtain ⟨e1, e2⟩ := loop_inv0 (F := f29_6 t l N f29_c10) (k := f29_c10) (fun s i => s ++ [Fix.mk (i : Int) ((fx t l i : Nat) : Int)]) (fun i s => s = fxL t l i) l.length (by
      intro n s i hi h
      subst h
      conv => lhs; unfold f29_6 f29_6b
      obtain ⟨d, hd, pd, ed⟩ := f65_eq (N := N) h1 h4 hl hi hN
      have := fx_eq h1 h4 hi hd pd
      subst this
      simp only [show (i : Int) < (l.length : Int) by omega, decide_true, cond_true, ed, Option.bind_some]
      rw [app_ok (by simp [fxL_len]; omega) (by simp [fxL_len]; omega)]
      simp only [Option.bind_some]
      rw [W_nat (by omega)]) (by
      intro s i hi h
      rw [h, fxL_succ]) (by intro n s; (conv => lhs; unfold f29_6 f29_6b); simp) (n := N) (s := []) (by omega) rfl
    rw [e1, e2]; rfl
  · rw [if_neg h]; simp [h]
open Classical in
theorem f30_eq {N : Nat} {t : List (List Int)} {l : List Int} (hs : Small t) (hl : l.length ≤ 40) (hN : 500 ≤ N) : f30 N t l = some (if fixT t l = 0 then (fxL t l l.length, (0 : Int)) else ([], fixT t l)) := by
  unfold f30
  rw [f69_eq hs hl hN]
  simp only [Option.bind_some]
  by_cases h : fixT t l = 0
  · obtain ⟨⟨h1, h2, h3, h4⟩, h5⟩ := fixT_ok.1 h
    have hlen := h1.hi
    rw [if_pos h]
    simp only [h, not_true_eq_false, decide_false, cond_false, joinK]
    obtain ⟨e1, e2⟩ := loop_inv0 (F := f30_6 t l N f30_c13) (k := f30_c13) (fun s i => s ++ [Fix.mk (i : Int) ((fx t l i : Nat) : Int)]) (fun i s => s = fxL t l i) l.length (by
      intro n s i hi h
      subst h
      conv => lhs; unfold f30_6 f30_6b
      simp only [show (i : Int) < (l.length : Int) by omega, decide_true, cond_true, joinK]
      obtain ⟨e1, e2⟩ := loop_inv0 (F := f30_9 t l N (i : Int) (f30_c7 t l (i : Int) (f30_6 t l N f30_c13 n))) (k := f30_c7 t l (i : Int) (f30_6 t l N f30_c13 n))
        (fun s j => if dl t 0 (l.set i ((j : Nat) : Int)) = 0 then s ++ [Fix.mk (i : Int) ((j : Nat) : Int)] else s) (fun j s => s = if fx t l i < j then fxL t l i ++ [Fix.mk (i : Int) ((fx t l i : Nat) : Int)] else fxL t l i) t.length (by
        intro m s j hj hsj
        conv => lhs; unfold f30_9 f30_9b
        simp only [show (j : Int) < (t.length : Int) by omega, decide_true, cond_true, f67_eq (N := N) (show l.length ≤ 50 by omega) hi, Option.bind_some, f61_eq (N := N) h1 (h4.set (k := i) (d := (j : Int)) (by omega)) (by simp; omega) (by omega)]
        have hsl : s.length ≤ i + 1 := by
          rw [hsj]; split
          · simp [fxL_len]
          · rw [fxL_len]; omega
        by_cases hp : dl t 0 (l.set i ((j : Nat) : Int)) = 0
        · rw [if_pos hp]
          simp only [hp, show ((0 : Nat) : Int) = 0 from rfl, decide_true, cond_true]
          rw [app_ok (by simp; omega) (by simp; omega)]
          simp only [Option.bind_some]
          rw [W_nat (by omega)]
        · rw [if_neg hp]
          simp only [show ¬ ((dl t 0 (l.set i ((j : Nat) : Int)) : Nat) : Int) = 0 by omega, decide_false, cond_false]
          rw [W_nat (by omega)]) (by
        intro s j hj hsj
        by_cases hp : dl t 0 (l.set i ((j : Nat) : Int)) = 0
        · have := fx_eq h1 h4 hi hj hp
          rw [if_pos hp, hsj, if_neg (by omega), if_pos (by omega), this]
        · rw [if_neg hp, hsj]
          have : j ≠ fx t l i := fun hh => hp (by rw [hh]; exact (fx_of h1 h4 hi).2)
          by_cases hlt : fx t l i < j
          · rw [if_pos hlt, if_pos (by omega)]
          · rw [if_neg hlt, if_neg (by omega)]) (by intro m s; (conv => lhs; unfold f30_9 f30_9b); simp) (n := N) (s := fxL t l i) (by omega) (by rw [if_neg (by omega)])
      rw [e1, e2, if_pos (fx_of h1 h4 hi).1]
      unfold f30_c7
      rw [W_nat (by omega)]) (by
      intro s i hi h
      rw [h, fxL_succ]) (by intro n s; (conv => lhs; unfold f30_6 f30_6b); simp) (n := N) (s := []) (by omega) rfl
    rw [e1, e2]; rfl
  · rw [if_neg h]; simp [h]
/-- neighbours exchanged -/
def swp (l : List Int) (i : Nat) : List Int := (l.set i (l.getD (i + 1) 0)).set (i + 1) (l.getD i 0)
theorem swp_len {l : List Int} {i : Nat} : (swp l i).length = l.length := by simp [swp]
theorem mem_getD {l : List Int} {i : Nat} (h : i < l.length) : l.getD i 0 ∈ l := by simp [h]
theorem Dig.swp {t : List (List Int)} {l : List Int} (h : Dig t l) {i : Nat} (hi : i + 1 < l.length) : Dig t (Vc.swp l i) :=
  (h.set (h _ (mem_getD hi))).set (h _ (mem_getD (by omega)))
theorem swp_swp {l : List Int} {i : Nat} (hi : i + 1 < l.length) : swp (swp l i) i = l := by
  apply List.ext_getElem?
  intro j
  simp only [swp, List.getElem?_set, List.getD_eq_getElem?_getD, List.length_set]
  by_cases h1 : i + 1 = j
  · subst h1
    simp [hi, show i < l.length by omega]
  · by_cases h2 : i = j
    · subst h2; simp [hi, show i < l.length by omega, List.getElem?_set]
    · simp [h1, h2]
noncomputable def swL (t : List (List Int)) (l : List Int) (m : Nat) : List Int := ((List.range m).filter fun i => decide (dl t 0 (swp l i) = 0)).map fun (i : Nat) => (i : Int)
open Classical in
theorem swL_succ {t : List (List Int)} {l : List Int} {m : Nat} : swL t l (m + 1) = if dl t 0 (swp l m) = 0 then swL t l m ++ [(m : Int)] else swL t l m := by
  unfold swL
  rw [List.range_succ, List.filter_append, List.map_append]
  by_cases h : dl t 0 (swp l m) = 0 <;> simp [h]
theorem swL_len {t : List (List Int)} {l : List Int} {m : Nat} : (swL t l m).length ≤ m := by
  unfold swL
  rw [List.length_map]
  exact Nat.le_trans (List.length_filter_le _ _) (by simp)
theorem setx_nat {l : List Int} {i : Nat} {x : Int} (h : i < l.length) : setx l (i : Int) x = some (l.set i x) := by
  unfold setx; rw [if_pos ⟨by omega, by omega⟩]; simp
theorem getD_set {l : List Int} {i j : Nat} {x : Int} (h : i < l.length) : (l.set i x).getD j 0 = if i = j then x else l.getD j 0 := by
  simp only [List.getD_eq_getElem?_getD, List.getElem?_set]
  by_cases e : i = j
  · subst e; simp [h]
  · simp [e]
open Classical in
theorem f31_eq {N : Nat} {t : List (List Int)} {l : List Int} (hs : Small t) (hl : l.length ≤ 40) (hN : 500 ≤ N) : f31 N t l = some (if fixT t l = 0 then (swL t l (l.length - 1), (0 : Int)) else ([], fixT t l)) := by
  unfold f31
  rw [f68_eq hs hl hN]
  simp only [Option.bind_some]
  by_cases h : fixT t l = 0
  · obtain ⟨⟨h1, h2, h3, h4⟩, h5⟩ := fixT_ok.1 h
    have h0 := h1.two
    rw [if_pos h]
    simp only [h, not_true_eq_false, decide_false, cond_false, joinK]
    rw [demB_same (fun hh => by subst hh; simp at h2)]
    rw [app_ok (by simp; omega) (by simp; omega)]
    simp only [List.nil_append, Option.bind_some]
    unfold f31_c5
    simp only [joinK]
    have key := loop_inv0 (F := fun n s i => f31_8 t N l f31_c13 n s i l) (k := f31_c13) (fun s i => if dl t 0 (swp l i) = 0 then s ++ [(i : Int)] else s) (fun i s => s = swL t l i) (l.length - 1) (by
      intro n s i hi h
      subst h
      show f31_8 t N l f31_c13 (n + 1) (swL t l i) (i : Int) l = _
      conv => lhs; unfold f31_8 f31_8b
      have hi1 : i + 1 < l.length := by omega
      have hi0 : i < l.length := by omega
      have hW : W ((l.length : Int) - (1 : Int)) = (l.length : Int) - 1 := W_sub1 (by omega)
      have hw : W ((i : Int) + (1 : Int)) = ((i + 1 : Nat) : Int) := W_nat (by omega)
      have es : (swp l i).length = l.length := swp_len
      have e9 : (swp l i).getD (i + 1) 0 = l.getD i 0 := by
        unfold swp; rw [getD_set (by simp; omega), if_pos rfl]
      have e10 : (swp l i).getD i 0 = l.getD (i + 1) 0 := by
        unfold swp; rw [getD_set (by simp; omega), if_neg (by omega), getD_set (by omega), if_pos rfl]
      have hf := f59_eq (N := N) h1.toSq (h4.swp hi1) (show 0 < t.length by omega) (by rw [es]; omega) (by omega)
      rw [show ((0 : Nat) : Int) = 0 from rfl] at hf
      have q1 : ix (l.set i (l.getD (i + 1) 0)) (((i + 1 : Nat)) : Int) = some (l.getD (i + 1) 0) := by
        rw [ix_getD (by simp; omega), getD_set hi0, if_neg (by omega)]
      have q2 : setx (l.set i (l.getD (i + 1) 0)) ((i + 1 : Nat) : Int) (l.getD i 0) = some (swp l i) := by
        rw [setx_nat (by simp; omega)]; rfl
      have q3 : ix (swp l i) ((i + 1 : Nat) : Int) = some (l.getD i 0) := by rw [ix_getD (by omega), e9]
      have q4 : ix (swp l i) (i : Int) = some (l.getD (i + 1) 0) := by rw [ix_getD (by omega), e10]
      have q5 : setx (swp l i) (i : Int) (l.getD i 0) = some ((swp l i).set i (l.getD i 0)) := setx_nat (by omega)
      have q6 : ix ((swp l i).set i (l.getD i 0)) ((i + 1 : Nat) : Int) = some (l.getD i 0) := by
        rw [ix_getD (by simp; omega), getD_set (by omega), if_neg (by omega), e9]
      have q7 : setx ((swp l i).set i (l.getD i 0)) ((i + 1 : Nat) : Int) (l.getD (i + 1) 0) = some l := by
        rw [setx_nat (by simp; omega)]
        have := swp_swp hi1
        rw [swp, e9, e10] at this
        rw [this]
      simp only [hW, show (i : Int) < (l.length : Int) - 1 by omega, decide_true, cond_true, hw, ix_getD hi1, ix_getD hi0, Option.bind_some, setx_nat hi0, q1, q2, hf, q3, q4, q5, q6, q7]
      have hsl := swL_len (t := t) (l := l) (m := i)
      by_cases hp : dl t 0 (swp l i) = 0
      · rw [if_pos hp]
        simp only [hp, show ((0 : Nat) : Int) = 0 from rfl, decide_true, cond_true]
        rw [app_ok (by simp; omega) (by simp; omega)]
        simp only [Option.bind_some]
      · rw [if_neg hp]
        simp only [show ¬ ((dl t 0 (swp l i) : Nat) : Int) = 0 by omega, decide_false, cond_false]) (by
      intro s i hi h
      rw [h, swL_succ]) (by
      intro n s
      show f31_8 t N l f31_c13 (n + 1) s _ l = _
      conv => lhs; unfold f31_8 f31_8b
      rw [W_sub1 (by omega), show decide (((l.length - 1 : Nat) : Int) < (l.length : Int) - 1) = false by simp; omega]; rfl) (n := N) (s := []) (by omega) rfl
    obtain ⟨e1, e2⟩ := key
    have e1 : f31_8 t N l f31_c13 N [] 0 l = _ := e1
    rw [e1, e2]; rfl
  · rw [if_neg h]; simp [h]
open Classical in
theorem f32_eq {N : Nat} {t : List (List Int)} {l : List Int} (hs : Small t) (hl : l.length ≤ 40) (hN : 500 ≤ N) : f32 N t l = some (if fixT t l = 0 then (swL t l (l.length - 1), (0 : Int)) else ([], fixT t l)) := by
  unfold f32
  rw [f69_eq hs hl hN]
  simp only [Option.bind_some]
  by_cases h : fixT t l = 0
  · obtain ⟨⟨h1, h2, h3, h4⟩, h5⟩ := fixT_ok.1 h
    have h0 := h1.two
    rw [if_pos h]
    simp only [h, not_true_eq_false, decide_false, cond_false, joinK]
    obtain ⟨e1, e2⟩ := loop_inv0 (F := f32_6 t l N f32_c10) (k := f32_c10) (fun s i => if dl t 0 (swp l i) = 0 then s ++ [(i : Int)] else s) (fun i s => s = swL t l i) (l.length - 1) (by
      intro n s i hi h
      subst h
      conv => lhs; unfold f32_6 f32_6b
      have hi1 : i + 1 < l.length := by omega
      have hi0 : i < l.length := by omega
      have hw : W ((i : Int) + (1 : Int)) = ((i + 1 : Nat) : Int) := W_nat (by omega)
      have es : (swp l i).length = l.length := swp_len
      simp only [hw, show ((i + 1 : Nat) : Int) < (l.length : Int) by omega, decide_true, cond_true, ix_getD hi1, ix_getD hi0, Option.bind_some, f67_eq (N := N) (show l.length ≤ 50 by omega) hi0]
      rw [f67_eq (by simp; omega) (by simp; omega)]
      simp only [Option.bind_some]
      rw [show (l.set i (l.getD (i + 1) 0)).set (i + 1) (l.getD i 0) = swp l i from rfl, f61_eq h1 (h4.swp hi1) (by omega) (by omega)]
      simp only [Option.bind_some]
      have hsl := swL_len (t := t) (l := l) (m := i)
      by_cases hp : dl t 0 (swp l i) = 0
      · rw [if_pos hp]
        simp only [hp, show ((0 : Nat) : Int) = 0 from rfl, decide_true, cond_true]
        rw [app_ok (by simp; omega) (by simp; omega)]
        simp only [Option.bind_some]
      · rw [if_neg hp]
        simp only [show ¬ ((dl t 0 (swp l i) : Nat) : Int) = 0 by omega, decide_false, cond_false]) (by
      intro s i hi h
      rw [h, swL_succ]) (by
      intro n s
      conv => lhs; unfold f32_6 f32_6b
      rw [W_nat (by omega), show decide (((l.length - 1 + 1 : Nat) : Int) < (l.length : Int)) = false by simp; omega]; rfl) (n := N) (s := []) (by omega) rfl
    rw [e1, e2]; rfl
  · rw [if_neg h]; simp [h]
theorem f5_true {N : Nat} {t : List (List Int)} {l : List Int} : f5 (N + 2000) t l = some true := by
  unfold f5
  obtain ⟨b, hb, hb2⟩ := f20_eq (N := N + 2000) (t := t) (by omega)
  have hw : f15 (N + 2000) = some true := f15_any (N + 1940)
  rw [hb, hw]
  simp only [Option.bind_some]
  cases b with
  | true => rfl
  | false =>
    have hs := hb2 rfl
    by_cases h : 40 < (l.length : Int)
    · simp [h]
    · have hl : l.length ≤ 40 := by omega
      rw [f29_eq hs hl (by omega), f30_eq hs hl (by omega), f31_eq hs hl (by omega), f32_eq hs hl (by omega)]
      simp only [h, decide_false, cond_false, Option.bind_some]
      have hsl := swL_len (t := t) (l := l) (m := l.length - 1)
      rw [f33_same (by split <;> simp [fxL_len]; omega) (by omega), f34_same (by split <;> simp; omega) (by omega)]
      simp
end Go.Vc
/-
  PLAIN LAWS OF SERIAL, 7: codes of numbers, and numbers of codes.
-/
namespace Go.Vc
set_option linter.unusedVariables false
set_option linter.unnecessarySimpa false
set_option linter.unusedSimpArgs false
set_option linter.unusedSimpArgs false
/-- the low digits of a number -/
def lw (n : Nat) : Nat → Nat → List Int
  | 0, _ => []
  | j + 1, v => (((v / n ^ j) % n : Nat) : Int) :: lw n j v
theorem lw_len {n j v : Nat} : (lw n j v).length = j := by
  induction j with
  | zero => rfl
  | succ j ih => simp [lw, ih]
theorem lw_dig {t : List (List Int)} (h : 0 < t.length) {j v : Nat} : Dig t (lw t.length j v) := by
  induction j with
  | zero => intro x hx; cases hx
  | succ j ih =>
    intro x hx
    rcases List.mem_cons.1 hx with rfl | hx
    · have := Nat.mod_lt (v / t.length ^ j) h; omega
    · exact ih x hx
theorem fill {l : List Int} {a : Nat} {d : Int} : (List.replicate (a + 1) (0 : Int) ++ l).set a d = List.replicate a 0 ++ d :: l := by
  rw [List.replicate_succ', List.append_assoc, List.set_append, if_neg (by simp)]
  simp
theorem tmod_nat (a b : Nat) : Int.tmod (a : Int) (b : Int) = ((a % b : Nat) : Int) := rfl
theorem tdiv_nat (a b : Nat) : Int.tdiv (a : Int) (b : Int) = ((a / b : Nat) : Int) := rfl
theorem div_pow {v n j : Nat} : v / n ^ j / n = v / n ^ (j + 1) := by rw [Nat.div_div_eq_div_mul, Nat.pow_succ]
theorem chk_pos {n : Nat} (h : 0 < n) : chk (decide ((n : Int) ≠ 0)) = some () := by
  rw [show decide ((n : Int) ≠ 0) = true by simp; omega]; rfl
theorem f35_loop {t : List (List Int)} {k v : Nat} {x3 : List Int} {N : Nat} {k0 : Int → List Int → Option (List Int × Int)} (h0 : 0 < t.length) (hk : x3.length = k) (hk2 : k ≤ 20) (hv : (v : Int) ≤ 9223372036854775807) :
    ∀ n j, j ≤ k → k - j < n → f35_10 t x3 k0 n ((v / t.length ^ j : Nat) : Int) (List.replicate (k - j) 0 ++ lw t.length j v) (j : Int) = k0 ((v / t.length ^ k : Nat) : Int) (lw t.length k v) := by
  intro n
  induction n with
  | zero => intro j _ h; omega
  | succ n ih =>
    intro j hj hn
    conv => lhs; unfold f35_10 f35_10b
    by_cases e : j = k
    · subst e
      simp [hk]
    · have hlen : (List.replicate (k - j) (0 : Int) ++ lw t.length j v).length = k := by simp [lw_len]; omega
      obtain ⟨a, ha⟩ : ∃ a, k - j = a + 1 := ⟨k - j - 1, by omega⟩
      have hw1 : W ((k : Int) - 1) = (k : Int) - 1 := W_sub1 (by omega)
      have hw2 : W ((k : Int) - 1 - (j : Int)) = (a : Int) := by rw [show (k : Int) - 1 - (j : Int) = (a : Int) by omega]; exact W_of (by omega) (by omega)
      rw [hk, show decide ((j : Int) < (k : Int)) = true by simp; omega]
      simp only [cond_true, chk_pos h0, Option.bind_some, hlen, hw1, hw2]
      rw [ix_getD (by omega), ha]
      simp only [Option.bind_some, tmod_nat, tdiv_nat]
      rw [setx_nat (by simp; omega), fill]
      simp only [Option.bind_some]
      have hd : W ((v / t.length ^ j / t.length : Nat) : Int) = ((v / t.length ^ (j + 1) : Nat) : Int) := by
        rw [div_pow]
        have hq := Nat.div_le_self v (t.length ^ (j + 1))
        generalize v / t.length ^ (j + 1) = q at hq ⊢
        exact W_of (by omega) (by omega)
      rw [hd, W_nat (by omega)]
      have := ih (j + 1) (by omega) (by omega)
      rw [show k - (j + 1) = a by omega] at this
      exact this
theorem f36_loop {t : List (List Int)} {k v : Nat} {k0 : List Int → Option (List Int × Int)} (h0 : 0 < t.length) (hk2 : k ≤ 20) (hv : (v : Int) ≤ 9223372036854775807) :
    ∀ n j, j ≤ k → k - j < n → f36_15 t k0 n ((v / t.length ^ j : Nat) : Int) (List.replicate (k - j) 0 ++ lw t.length j v) ((k : Int) - 1 - (j : Int)) = k0 (lw t.length k v) := by
  intro n
  induction n with
  | zero => intro j _ h; omega
  | succ n ih =>
    intro j hj hn
    conv => lhs; unfold f36_15 f36_15b
    by_cases e : j = k
    · subst e
      rw [show decide ((0 : Int) ≤ (j : Int) - 1 - (j : Int)) = false by simp; omega]
      simp
    · have hlen : (List.replicate (k - j) (0 : Int) ++ lw t.length j v).length = k := by simp [lw_len]; omega
      obtain ⟨a, ha⟩ : ∃ a, k - j = a + 1 := ⟨k - j - 1, by omega⟩
      have hw2 : W ((a : Int) - 1) = (a : Int) - 1 := W_sub1 (by omega)
      rw [show (k : Int) - 1 - (j : Int) = (a : Int) by omega, show decide ((0 : Int) ≤ (a : Int)) = true by simp]
      simp only [cond_true, chk_pos h0, Option.bind_some]
      rw [ix_getD (by omega), ha]
      simp only [Option.bind_some, tmod_nat, tdiv_nat]
      rw [setx_nat (by simp; omega), fill]
      simp only [Option.bind_some]
      have hd : W ((v / t.length ^ j / t.length : Nat) : Int) = ((v / t.length ^ (j + 1) : Nat) : Int) := by
        rw [div_pow]
        have hq := Nat.div_le_self v (t.length ^ (j + 1))
        generalize v / t.length ^ (j + 1) = q at hq ⊢
        exact W_of (by omega) (by omega)
      rw [hd, hw2]
      have := ih (j + 1) (by omega) (by omega)
      rw [show k - (j + 1) = a by omega, show (k : Int) - 1 - ((j + 1 : Nat) : Int) = (a : Int) - 1 by omega] at this
      exact this
theorem pow_le {n k : Nat} (hn : n ≤ 10) (hk : k ≤ 11) : n ^ k ≤ 100000000000 :=
  Nat.le_trans (Nat.pow_le_pow_left hn k) (Nat.le_trans (Nat.pow_le_pow_right (by omega) hk) (by decide))
theorem f36_prod {t : List (List Int)} {k : Nat} {a2 : Int} {k1 : Int → Option (List Int × Int)} (hn : t.length ≤ 10) (h0 : 0 < t.length) (hk : k ≤ 11) :
    ∀ n j, j ≤ k → k - j < n → f36_8 t ((k + 1 : Nat) : Int) a2 k1 n ((t.length ^ j : Nat) : Int) ((j + 1 : Nat) : Int) = k1 ((t.length ^ k : Nat) : Int) := by
  intro n
  induction n with
  | zero => intro j _ h; omega
  | succ n ih =>
    intro j hj hn'
    conv => lhs; unfold f36_8 f36_8b
    by_cases e : j = k
    · subst e; simp
    · rw [show decide (((j + 1 : Nat) : Int) < ((k + 1 : Nat) : Int)) = true by simp; omega]
      simp only [cond_true]
      have h2 := pow_le hn (show j + 1 ≤ 11 by omega)
      have hw : W (((t.length ^ j : Nat) : Int) * (t.length : Int)) = ((t.length ^ (j + 1) : Nat) : Int) := by
        rw [show ((t.length ^ j : Nat) : Int) * (t.length : Int) = ((t.length ^ (j + 1) : Nat) : Int) by rw [Nat.pow_succ]; simp]
        exact W_of (by omega) (by omega)
      rw [hw, W_nat (by omega)]
      exact ih (j + 1) (by omega) (by omega)
open Classical in
/-- the code of a number: what is wrong with it -/
noncomputable def cdT (t : List (List Int)) (size number : Int) : Int :=
  if chkT t ≠ 0 then chkT t else if ¬ (2 ≤ size ∧ size ≤ 12) then 3 else if 0 ≤ number ∧ number < ((t.length ^ (size.toNat - 1) : Nat) : Int) then 0 else 4
/-- the check digit of digits -/
noncomputable def cd (t : List (List Int)) (l : List Int) : Nat := Classical.epsilon fun d => d < t.length ∧ en t (dl t 0 l) d = 0
theorem cd_of {t : List (List Int)} {l : List Int} (h1 : Lat t) (h4 : Dig t l) : cd t l < t.length ∧ en t (dl t 0 l) (cd t l) = 0 := by
  have h0 := h1.two
  have hs := dl_lt (s := 0) h1.toSq (by omega) h4
  obtain ⟨m, hm, hm2⟩ := h1.digit (s := dl t 0 l) hs (post := []) (fun x hx => by cases hx) (y := 0) (by omega)
  exact Classical.epsilon_spec (p := fun d => d < t.length ∧ en t (dl t 0 l) d = 0) ⟨m, hm, by have := h1.lo _ m hs hm; rw [dl_nil] at hm2; omega⟩
theorem cd_eq {t : List (List Int)} {l : List Int} {d : Nat} (h1 : Lat t) (h4 : Dig t l) (hd : d < t.length) (e : en t (dl t 0 l) d = 0) : d = cd t l := by
  obtain ⟨a, b⟩ := cd_of h1 h4
  have h0 := h1.two
  exact h1.rowInj (dl_lt (s := 0) h1.toSq (by omega) h4) hd a (e.trans b.symm)
theorem digit_cd {N : Nat} {t : List (List Int)} {l : List Int} (hs : Small t) (h1 : Lat t) (h4 : Dig t l) (hl : l.length ≤ 12) (hN : 500 ≤ N) : f23 N t l = some (((cd t l : Nat) : Int), 0) ∧ f24 N t l = some (((cd t l : Nat) : Int), 0) := by
  obtain ⟨r, e1, e2, _, e3⟩ := digits_eq (N := N) hs (show l.length ≤ 40 by omega) hN
  obtain ⟨e4, d, hd, e5, e6⟩ := e3 (digT_ok.2 ⟨h1, hl, h4⟩)
  have := cd_eq h1 h4 hd e6
  subst this
  have : r = (((cd t l : Nat) : Int), 0) := Prod.ext e5 e4
  subst this
  exact ⟨e1, e2⟩
noncomputable def cdL (t : List (List Int)) (k v : Nat) : List Int := lw t.length k v ++ [((cd t (lw t.length k v) : Nat) : Int)]
theorem mkS_nat {k : Nat} (hk : k ≤ 1000) : mkS 8 (0 : Int) (k : Int) (k : Int) = some (List.replicate k 0) := by
  unfold mkS
  rw [if_pos ⟨by omega, by omega, by omega⟩]; simp
open Classical in
theorem code_eq {N : Nat} {t : List (List Int)} {size number : Int} (hs : Small t) (hv : number ≤ 9223372036854775807) (hN : 500 ≤ N) :
    f35 N t size number = some (if cdT t size number = 0 then (cdL t (size.toNat - 1) number.toNat, (0 : Int)) else ([], cdT t size number)) ∧
    f36 N t size number = some (if cdT t size number = 0 then (cdL t (size.toNat - 1) number.toNat, (0 : Int)) else ([], cdT t size number)) := by
  unfold f35 f36 cdT
  rw [f49_eq hs hN, f50_eq hs.1 (by omega)]
  simp only [Option.bind_some, joinK]
  by_cases h : chkT t = 0
  · have h1 := chkT_good.1 h
    have h0 := h1.two
    have hlen := h1.hi
    simp only [h, ne_eq, not_true_eq_false, decide_false, decide_true, cond_false, cond_true, f64_eq, f57_eq, Option.bind_some, if_false]
    by_cases h2 : 2 ≤ size ∧ size ≤ 12
    · obtain ⟨k, rfl⟩ : ∃ k : Nat, size = ((k + 1 : Nat) : Int) := ⟨size.toNat - 1, by omega⟩
      have hk1 : 1 ≤ k := by omega
      have hk2 : k ≤ 11 := by omega
      have hwk : W (((k + 1 : Nat) : Int) - 1) = (k : Int) := by rw [show ((k + 1 : Nat) : Int) - 1 = (k : Int) by omega]; exact W_of (by omega) (by omega)
      have hwk2 : W (((k + 1 : Nat) : Int) - 2) = (k : Int) - 1 := by rw [show ((k + 1 : Nat) : Int) - 2 = (k : Int) - 1 by omega]; exact W_of (by omega) (by omega)
      have hpl := pow_le hlen hk2
      simp only [show decide ((2 : Int) ≤ ((k + 1 : Nat) : Int) ∧ ((k + 1 : Nat) : Int) ≤ 12) = true by simp only [decide_eq_true_eq]; exact h2, Bool.not_true, cond_false, hwk, mkS_nat (show k ≤ 1000 by omega), Option.bind_some,
        show ((k + 1 : Nat) : Int).toNat - 1 = k by omega, h2, and_self, not_true_eq_false, if_false, decide_true, Bool.not_true]
      have hf36 : f36_c4 t ((k + 1 : Nat) : Int) number N 0 = f36_c11 t ((k + 1 : Nat) : Int) number N ((t.length ^ k : Nat) : Int) := by
        unfold f36_c4
        simp only [not_true_eq_false, decide_false, cond_false, joinK]
        have := f36_prod (t := t) (k := k) (a2 := number) (k1 := f36_c11 t ((k + 1 : Nat) : Int) number N) hlen (by omega) hk2 N 0 (by omega) (by omega)
        exact this
      rw [hf36]
      unfold f36_c11
      rw [f57_eq]
      have hwp : W (((t.length ^ k : Nat) : Int) - 1) = ((t.length ^ k : Nat) : Int) - 1 := W_of (by omega) (by omega)
      simp only [Option.bind_some, hwp, hwk, hwk2, mkS_nat (show k ≤ 1000 by omega), joinK]
      by_cases h3 : number < 0
      · rw [if_neg (show ¬ (0 ≤ number ∧ number < ((t.length ^ k : Nat) : Int)) by omega)]
        simp only [h3, decide_true, cond_true]
        rw [show decide (0 ≤ number ∧ number ≤ ((t.length ^ k : Nat) : Int) - 1) = false by simp only [decide_eq_false_iff_not]; omega]
        exact ⟨rfl, rfl⟩
      · obtain ⟨v, rfl⟩ : ∃ v : Nat, number = (v : Int) := ⟨number.toNat, by omega⟩
        simp only [h3, decide_false, cond_false]
        have hd : Dig t (lw t.length k v) := lw_dig (by omega)
        obtain ⟨q1, q2⟩ := digit_cd (N := N) hs h1 hd (by rw [lw_len]; omega) hN
        have l1 := f35_loop (t := t) (k := k) (v := v) (x3 := List.replicate k 0) (N := N) (k0 := f35_c15 t N) (by omega) (by simp) (by omega) hv N 0 (by omega) (by omega)
        have l2 := f36_loop (t := t) (k := k) (v := v) (k0 := f36_c19 t N) (by omega) (by omega) hv N 0 (by omega) (by omega)
        simp only [Nat.pow_zero, Nat.div_one, Nat.sub_zero, lw, List.append_nil] at l1 l2
        rw [show ((0 : Nat) : Int) = 0 from rfl] at l1 l2
        rw [Int.sub_zero] at l2
        rw [l1]
        unfold f35_c15
        rw [q1]
        by_cases h4 : v < t.length ^ k
        · rw [if_pos (show 0 ≤ (v : Int) ∧ (v : Int) < ((t.length ^ k : Nat) : Int) from ⟨by omega, by omega⟩)]
          have : v / t.length ^ k = 0 := Nat.div_eq_of_lt h4
          rw [show decide (0 ≤ (v : Int) ∧ (v : Int) ≤ ((t.length ^ k : Nat) : Int) - 1) = true by simp only [decide_eq_true_eq]; omega, l2]
          unfold f36_c19
          rw [q2]
          simp only [this, show ((0 : Nat) : Int) = 0 from rfl, Int.lt_irrefl, decide_false, cond_false, Option.bind_some, Bool.not_true, Int.toNat_natCast, if_true]
          rw [app_ok (by simp [lw_len]; omega) (by simp [lw_len]; omega)]
          exact ⟨rfl, rfl⟩
        · rw [if_neg (show ¬ (0 ≤ (v : Int) ∧ (v : Int) < ((t.length ^ k : Nat) : Int)) by omega)]
          have : 0 < v / t.length ^ k := Nat.div_pos (by omega) (Nat.pow_pos (by omega))
          rw [show decide (0 ≤ (v : Int) ∧ (v : Int) ≤ ((t.length ^ k : Nat) : Int) - 1) = false by simp only [decide_eq_false_iff_not]; omega]
          rw [show decide ((0 : Int) < ((v / t.length ^ k : Nat) : Int)) = true by simp only [decide_eq_true_eq]; omega]
          exact ⟨rfl, rfl⟩
    · rw [if_pos h2, show decide ((2 : Int) ≤ size ∧ size ≤ 12) = false by simp only [decide_eq_false_iff_not]; exact h2]
      exact ⟨rfl, rfl⟩
  · rw [if_pos h]
    simp only [h, not_false_eq_true, decide_true, decide_false, cond_true, cond_false, if_false]
    refine ⟨trivial, ?_⟩
    unfold f36_c4
    simp [h]
/-- the number of a code -/
def nm (t : List (List Int)) (l : List Int) : Int := l.foldl (fun s x => W (W (s * (t.length : Int)) + x)) 0
theorem f37_loop {t : List (List Int)} {l : List Int} {k0 : Int → Option (Int × Int)} (hl : l.length ≤ 100) : ∀ n i (s : Int), i ≤ l.length → l.length - i < n → f37_i406_2 t l k0 n s (i : Int) = k0 ((l.drop i).foldl (fun s x => W (W (s * (t.length : Int)) + x)) s) := by
  intro n
  induction n with
  | zero => intro i s _ h; omega
  | succ n ih =>
    intro i s hi hn
    conv => lhs; unfold f37_i406_2 f37_i406_2b
    by_cases e : i = l.length
    · subst e; simp
    · have hi : i < l.length := by omega
      simp only [show (i : Int) < (l.length : Int) by omega, decide_true, cond_true, ix_get hi, Option.bind_some]
      rw [W_nat (by omega), ih (i + 1) _ hi (by omega), List.drop_eq_getElem_cons hi]; rfl
theorem f38_loop {t : List (List Int)} {l : List Int} {k0 : Int → Option (Int × Int)} (hl : l.length ≤ 100) (h1 : 1 ≤ l.length) : ∀ n i (s : Int), i ≤ l.length - 1 → l.length - i < n → f38_6 t l k0 n s (i : Int) = k0 (((l.take (l.length - 1)).drop i).foldl (fun s x => W (W (s * (t.length : Int)) + x)) s) := by
  intro n
  induction n with
  | zero => intro i s _ h; omega
  | succ n ih =>
    intro i s hi hn
    conv => lhs; unfold f38_6 f38_6b
    rw [W_nat (by omega)]
    by_cases e : i = l.length - 1
    · rw [show decide (((i + 1 : Nat) : Int) < (l.length : Int)) = false by simp; omega]
      subst e; simp
    · have hi : i < (l.take (l.length - 1)).length := by simp; omega
      have hi2 : i < l.length := by omega
      simp only [show ((i + 1 : Nat) : Int) < (l.length : Int) by omega, decide_true, cond_true, ix_get hi2, Option.bind_some]
      rw [ih (i + 1) _ (by omega) (by omega), List.drop_eq_getElem_cons hi]; simp
theorem number_eq {N : Nat} {t : List (List Int)} {l : List Int} (hs : Small t) (hl : l.length ≤ 40) (hN : 500 ≤ N) : ∃ r, f37 N t l = some r ∧ f38 N t l = some r ∧ (rightT t l = 0 → r = (nm t (l.take (l.length - 1)), 0)) := by
  unfold f37 f38
  rw [f27_eq hs hl hN, f28_eq hs hl hN]
  simp only [Option.bind_some]
  by_cases h : rightT t l = 0
  · have hc : codT t l = 0 := by
      unfold rightT at h
      by_cases hc : codT t l = 0
      · exact hc
      · rw [if_neg hc] at h; exact h
    obtain ⟨h1, h2, h3, h4⟩ := codT_ok.1 hc
    refine ⟨(nm t (l.take (l.length - 1)), 0), ?_, ?_, fun _ => rfl⟩
    · simp only [h, not_true_eq_false, decide_false, cond_false, joinK, W_sub1 (show l.length ≤ 1000000 by omega)]
      rw [show (l.length : Int) - 1 = ((l.length - 1 : Nat) : Int) by omega, sub_pre (by omega)]
      simp only [Option.bind_some]
      have := f37_loop (t := t) (l := l.take (l.length - 1)) (k0 := f37_i406_c6 t) (by simp; omega) N 0 0 (by omega) (by simp; omega)
      rw [show ((0 : Nat) : Int) = 0 from rfl] at this
      rw [this]; rfl
    · simp only [h, not_true_eq_false, decide_false, cond_false, joinK]
      have := f38_loop (t := t) (l := l) (k0 := f38_c9) (by omega) (by omega) N 0 0 (by omega) (by omega)
      rw [show ((0 : Nat) : Int) = 0 from rfl] at this
      rw [this]; rfl
  · exact ⟨(0, rightT t l), by simp [h], by simp [h], fun hh => absurd hh h⟩
theorem f6_true {N : Nat} {t : List (List Int)} {size number : Int} {l : List Int} (hv : number ≤ 9223372036854775807) : f6 (N + 2000) t size number l = some true := by
  unfold f6
  obtain ⟨b, hb, hb2⟩ := f20_eq (N := N + 2000) (t := t) (by omega)
  have hw : f15 (N + 2000) = some true := f15_any (N + 1940)
  rw [hb, hw]
  simp only [Option.bind_some]
  cases b with
  | true => rfl
  | false =>
    have hs := hb2 rfl
    by_cases h : 40 < (l.length : Int)
    · simp [h]
    · have hl : l.length ≤ 40 := by omega
      obtain ⟨e1, e2⟩ := code_eq (N := N + 2000) (size := size) hs hv (by omega)
      obtain ⟨r, e3, e4, _⟩ := number_eq (N := N + 2000) (l := l) hs hl (by omega)
      rw [e1, e2, e3, e4]
      simp only [h, decide_false, cond_false, Option.bind_some]
      rw [f34_same (by
        split
        · rename_i h0
          simp only [cdL, List.length_append, lw_len, List.length_cons, List.length_nil]
          have : size ≤ 12 := by
            unfold cdT at h0
            split at h0
            · exact absurd h0 (by assumption)
            · split at h0
              · exact absurd h0 (by decide)
              · omega
          omega
        · simp) (by omega)]
      simp
end Go.Vc
/-
  The arguments of the laws of Serial, as data.
-/
namespace Go.Vc
set_option linter.unusedVariables false
set_option linter.unnecessarySimpa false
set_option linter.unusedSimpArgs false
abbrev tI : Ty := .int .i64
abbrev tB : Ty := .int .u8
abbrev tInts : Ty := .slice tI false 1
abbrev tTable : Ty := .slice tInts false 1
abbrev tBytes : Ty := .slice tB false 1
def i64In (n : Int) : Prop := -9223372036854775808 ≤ n ∧ n ≤ 9223372036854775807
def u8In (n : Int) : Prop := 0 ≤ n ∧ n ≤ 255
theorem tI_of {ds : List D} (h : tI.has ds) : ∃ n, ds = [iN n] ∧ i64In n := by
  simp only [tI, Ty.has] at h
  obtain ⟨n, rfl, h⟩ := h
  exact ⟨n, rfl, by simpa [IntKind.min, IntKind.max, IntKind.signed, IntKind.bits, i64In] using h⟩
theorem tB_of {ds : List D} (h : tB.has ds) : ∃ n, ds = [u8N n] ∧ u8In n := by
  simp only [tB, Ty.has] at h
  obtain ⟨n, rfl, h⟩ := h
  exact ⟨n, rfl, by simpa [IntKind.min, IntKind.max, IntKind.signed, IntKind.bits, u8In] using h⟩
theorem ints_of {ds : List D} (h : tInts.has ds) : ∃ l : List Int, ds = [sl_iN l] ∧ ∀ x, x ∈ l → i64In x := by
  obtain ⟨l, h1, _, h3⟩ := slice_of (d := iN) (p := i64In) (fun cs hc => by
    obtain ⟨n, rfl, h⟩ := tI_of hc
    exact ⟨n, rfl, h⟩) h
  exact ⟨l, h1, h3⟩
theorem bytes_of {ds : List D} (h : tBytes.has ds) : ∃ l : List Int, ds = [sl_u8N l] ∧ ∀ x, x ∈ l → u8In x := by
  obtain ⟨l, h1, _, h3⟩ := slice_of (d := u8N) (p := u8In) (fun cs hc => by
    obtain ⟨n, rfl, h⟩ := tB_of hc
    exact ⟨n, rfl, h⟩) h
  exact ⟨l, h1, h3⟩
theorem table_of {ds : List D} (h : tTable.has ds) : ∃ l : List (List Int), ds = [sl_sl_iN l] := by
  obtain ⟨l, h1, _, _⟩ := slice_of (d := sl_iN) (p := fun _ => True) (fun cs hc => by
    obtain ⟨n, rfl, h⟩ := ints_of hc
    exact ⟨n, rfl, trivial⟩) h
  exact ⟨l, h1⟩
theorem tI_ofD {x : D} (h : tI.hasD x) : ∃ n, x = iN n ∧ i64In n := by
  obtain ⟨n, h1, h2⟩ := tI_of (ds := [x]) h
  exact ⟨n, List.singleton_inj.1 h1, h2⟩
theorem tB_ofD {x : D} (h : tB.hasD x) : ∃ n, x = u8N n ∧ u8In n := by
  obtain ⟨n, h1, h2⟩ := tB_of (ds := [x]) h
  exact ⟨n, List.singleton_inj.1 h1, h2⟩
theorem ints_ofD {x : D} (h : tInts.hasD x) : ∃ l : List Int, x = sl_iN l ∧ ∀ x, x ∈ l → i64In x := by
  obtain ⟨n, h1, h2⟩ := ints_of (ds := [x]) h
  exact ⟨n, List.singleton_inj.1 h1, h2⟩
theorem bytes_ofD {x : D} (h : tBytes.hasD x) : ∃ l : List Int, x = sl_u8N l ∧ ∀ x, x ∈ l → u8In x := by
  obtain ⟨n, h1, h2⟩ := bytes_of (ds := [x]) h
  exact ⟨n, List.singleton_inj.1 h1, h2⟩
theorem table_ofD {x : D} (h : tTable.hasD x) : ∃ l : List (List Int), x = sl_sl_iN l := by
  obtain ⟨n, h1⟩ := table_of (ds := [x]) h
  exact ⟨n, List.singleton_inj.1 h1⟩
end Go.Vc

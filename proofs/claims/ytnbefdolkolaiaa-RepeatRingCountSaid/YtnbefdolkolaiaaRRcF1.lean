/-
  A library for proofs about Go functions by symbolic evaluation, and plain Lean functions that the walked Go functions compute (written by a program of this claim).
-/
import Derived.Test.YtnbefdolkolaiaaW1
import Derived.Test.YtnbefdolkolaiaaW3
import Derived.Test.YtnbefdolkolaiaaW2
import Derived.Test.YtnbefdolkolaiaaVc3
namespace Go.Vc
open Go.Proofs
set_option linter.unusedVariables false
set_option linter.unnecessarySimpa false
set_option linter.unusedSimpArgs false
section
variable {c : Ctx} {p nid : Nat} {a b : Code} {st : St} {K : Ex → St → Prop}
def f12_c29 (a0 : A2u8N) (N : Nat) (v5 : Int) (v7 : Int) (b700 : List (ByteArray × Bool)) : Option (Bool) :=
 (f33 N (W ((1 : Int) + (Int.tmod a0.e0 (7 : Int)))) (W ((1 : Int) + (Int.tmod a0.e1 (3 : Int))))).bind fun x1 =>
 bif decide (x1.2 = (0 : Int)) then ((lenM b700).bind fun x2 =>
 bif decide (x1.1 = (x2 : Int)) then (bif decide (v7 = v5) then ((f15 N ).bind fun x3 =>
 some (x3))
 else (some (false)))
 else (some (false)))
 else (some (false))
def Lf12_c29 (a0 : A2u8N) (N : Nat) (v5 : Int) : Lp (Int × (List (ByteArray × Bool))) Unit (Bool) := lp0 ⟨[3, 4, 5, 6, 7], [700], [], []⟩ (fun (v7, _) => [.dat (iN (W ((1 : Int) + (Int.tmod a0.e0 (7 : Int))))), .dat (iN (W ((1 : Int) + (Int.tmod a0.e1 (3 : Int))))), .dat (iN v5), .mp 700, .dat (iN v7)]) (fun (_, b700) => [.mp (encM strN bN b700)]) (fun (v7, b700) => f12_c29 a0 N v5 v7 b700)
theorem Ef12_c29 {a0 N v5 v7 b700} : (Lf12_c29 a0 N v5).E (v7, b700) = f12_c29 a0 N v5 v7 b700 := rfl
def f12_c11 (a0 : A2u8N) (v5 : Int) (v8 : Int) (r10 : Int → Int → (List (ByteArray × Bool)) → Option (Bool)) (v7' : Int) (b700' : List (ByteArray × Bool)) : Option (Bool) :=
 r10 (v7') (W (v8 + (1 : Int))) (b700')
def Lf12_c11 (a0 : A2u8N) (v5 : Int) (v8 : Int) (r10 : Int → Int → (List (ByteArray × Bool)) → Option (Bool)) : Lp (Int × (List (ByteArray × Bool))) Unit (Bool) := lp0 ⟨[3, 4, 5, 6, 7, 8], [700], [], []⟩ (fun (v7', _) => [.dat (iN (W ((1 : Int) + (Int.tmod a0.e0 (7 : Int))))), .dat (iN (W ((1 : Int) + (Int.tmod a0.e1 (3 : Int))))), .dat (iN v5), .mp 700, .dat (iN (v7')), .dat (iN v8)]) (fun (_, b700') => [.mp (encM strN bN (b700'))]) (fun (v7', b700') => f12_c11 a0 v5 v8 r10 v7' b700')
theorem Ef12_c11 {a0 v5 v8 r10 v7' b700'} : (Lf12_c11 a0 v5 v8 r10).E (v7', b700') = f12_c11 a0 v5 v8 r10 v7' b700' := rfl
def f12_c22 (a0 : A2u8N) (N : Nat) (v5 : Int) (v7 : Int) (v8 : Int) (b700 : List (ByteArray × Bool)) (k1 : Int → (List (ByteArray × Bool)) → Option (Bool)) (v9 : ByteArray) (v11 : ByteArray) : Option (Bool) :=
 (some (lookK false v11 b700)).bind fun x4 =>
 bif x4.1 then (k1 v7 b700)
 else ((some (setK v11 true b700)).bind fun x5 =>
 (f29 N v9).bind fun x6 =>
 (f18 N v9).bind fun x7 =>
 bif decide (¬ x6.2 = (0 : Int)) then (some (false))
 else (bif decide (¬ x7.2.2 = (0 : Int)) then (some (false))
 else (bif decide (¬ x6.1 = v11) then (some (false))
 else (k1 (W (v7 + (ByteArray.size x7.1 : Int))) x5))))
def Lf12_c22 (a0 : A2u8N) (N : Nat) (v5 : Int) (v7 : Int) (v8 : Int) (b700 : List (ByteArray × Bool)) (k1 : Int → (List (ByteArray × Bool)) → Option (Bool)) (v9 : ByteArray) : Lp (ByteArray) Unit (Bool) := lp0 ⟨[3, 4, 5, 6, 7, 8, 9, 11], [700], [], []⟩ (fun v11 => [.dat (iN (W ((1 : Int) + (Int.tmod a0.e0 (7 : Int))))), .dat (iN (W ((1 : Int) + (Int.tmod a0.e1 (3 : Int))))), .dat (iN v5), .mp 700, .dat (iN v7), .dat (iN v8), .dat (strN v9), .dat (strN v11)]) (fun _ => [.mp (encM strN bN b700)]) (fun v11 => f12_c22 a0 N v5 v7 v8 b700 k1 v9 v11)
theorem Ef12_c22 {a0 N v5 v7 v8 b700 k1 v9 v11} : (Lf12_c22 a0 N v5 v7 v8 b700 k1 v9).E v11 = f12_c22 a0 N v5 v7 v8 b700 k1 v9 v11 := rfl
def f12_19b (r19 : ByteArray → Nat → Option (Bool)) (a0 : A2u8N) (v5 : Int) (v7 : Int) (v8 : Int) (b700 : List (ByteArray × Bool)) (v9 : ByteArray) (k2 : ByteArray → Option (Bool)) (v11 : ByteArray) (p1801 : Nat) : Option (Bool) :=
 bif decide (p1801 < ByteArray.size v9) then ((some (runeAt v9 p1801)).bind fun x8 =>
 (subS v9 (((p1801 : Nat) : Int) : Int) (ByteArray.size v9 : Int)).bind fun x9 =>
 (subS v9 0 (((p1801 : Nat) : Int) : Int)).bind fun x10 =>
 (addS x9 x10).bind fun x11 =>
 (some (minS v11 x11)).bind fun x12 =>
 r19 x12 x8.2)
 else (k2 v11)
def f12_19 (a0 : A2u8N) (v5 : Int) (v7 : Int) (v8 : Int) (b700 : List (ByteArray × Bool)) (v9 : ByteArray) (k2 : ByteArray → Option (Bool)) : Nat → ByteArray → Nat → Option (Bool)
  | 0, _, _ => none
  | n + 1, v11, p1801 => f12_19b (f12_19 a0 v5 v7 v8 b700 v9 k2 n) a0 v5 v7 v8 b700 v9 k2 v11 p1801
def Lf12_19 (a0 : A2u8N) (v5 : Int) (v7 : Int) (v8 : Int) (b700 : List (ByteArray × Bool)) (v9 : ByteArray) (k2 : ByteArray → Option (Bool)) : Lp (Nat × ByteArray × Nat) Unit (Bool) := lp0 ⟨[3, 4, 5, 6, 7, 8, 9, 11, 60], [700, 1801], [], []⟩ (fun (_, v11, _) => [.dat (iN (W ((1 : Int) + (Int.tmod a0.e0 (7 : Int))))), .dat (iN (W ((1 : Int) + (Int.tmod a0.e1 (3 : Int))))), .dat (iN v5), .mp 700, .dat (iN v7), .dat (iN v8), .dat (strN v9), .dat (strN v11), .ptr 1801 0]) (fun (_, _, p1801) => [.mp (encM strN bN b700), .sit v9 p1801]) (fun (n, v11, p1801) => f12_19 a0 v5 v7 v8 b700 v9 k2 n v11 p1801)
theorem Ef12_19 {a0 v5 v7 v8 b700 v9 k2 n v11 p1801} : (Lf12_19 a0 v5 v7 v8 b700 v9 k2).E (n, v11, p1801) = f12_19 a0 v5 v7 v8 b700 v9 k2 n v11 p1801 := rfl
def f12_c17 (a0 : A2u8N) (N : Nat) (v5 : Int) (v7 : Int) (v8 : Int) (b700 : List (ByteArray × Bool)) (k1 : Int → (List (ByteArray × Bool)) → Option (Bool)) (v9 : ByteArray) : Option (Bool) :=
 joinK (f12_c22 a0 N v5 v7 v8 b700 k1 v9) fun k2 =>
 f12_19 a0 v5 v7 v8 b700 v9 k2 N v9 0
def Lf12_c17 (a0 : A2u8N) (N : Nat) (v5 : Int) (v7 : Int) (v8 : Int) (b700 : List (ByteArray × Bool)) (k1 : Int → (List (ByteArray × Bool)) → Option (Bool)) : Lp (ByteArray) Unit (Bool) := lp0 ⟨[3, 4, 5, 6, 7, 8, 9], [700], [], []⟩ (fun v9 => [.dat (iN (W ((1 : Int) + (Int.tmod a0.e0 (7 : Int))))), .dat (iN (W ((1 : Int) + (Int.tmod a0.e1 (3 : Int))))), .dat (iN v5), .mp 700, .dat (iN v7), .dat (iN v8), .dat (strN v9)]) (fun _ => [.mp (encM strN bN b700)]) (fun v9 => f12_c17 a0 N v5 v7 v8 b700 k1 v9)
theorem Ef12_c17 {a0 N v5 v7 v8 b700 k1 v9} : (Lf12_c17 a0 N v5 v7 v8 b700 k1).E v9 = f12_c17 a0 N v5 v7 v8 b700 k1 v9 := rfl
def f12_14b (r14 : ByteArray → Int → Option (Bool)) (a0 : A2u8N) (v5 : Int) (v7 : Int) (v8 : Int) (b700 : List (ByteArray × Bool)) (k3 : ByteArray → Option (Bool)) (v9 : ByteArray) (v10 : Int) : Option (Bool) :=
 bif decide ((ByteArray.size v9 : Int) < (W ((1 : Int) + (Int.tmod a0.e0 (7 : Int))))) then ((chk (decide ((W ((1 : Int) + (Int.tmod a0.e1 (3 : Int)))) ≠ 0))).bind fun _ =>
 (subS (strC [97, 98, 99]) (Int.tmod v10 (W ((1 : Int) + (Int.tmod a0.e1 (3 : Int))))) (ByteArray.size (strC [97, 98, 99]) : Int)).bind fun x13 =>
 (subS x13 0 (1 : Int)).bind fun x14 =>
 (addS v9 x14).bind fun x15 =>
 (chk (decide ((W ((1 : Int) + (Int.tmod a0.e1 (3 : Int)))) ≠ 0))).bind fun _ =>
 r14 x15 (W (Int.tdiv v10 (W ((1 : Int) + (Int.tmod a0.e1 (3 : Int)))))))
 else (k3 v9)
def f12_14 (a0 : A2u8N) (v5 : Int) (v7 : Int) (v8 : Int) (b700 : List (ByteArray × Bool)) (k3 : ByteArray → Option (Bool)) : Nat → ByteArray → Int → Option (Bool)
  | 0, _, _ => none
  | n + 1, v9, v10 => f12_14b (f12_14 a0 v5 v7 v8 b700 k3 n) a0 v5 v7 v8 b700 k3 v9 v10
def Lf12_14 (a0 : A2u8N) (v5 : Int) (v7 : Int) (v8 : Int) (b700 : List (ByteArray × Bool)) (k3 : ByteArray → Option (Bool)) : Lp (Nat × ByteArray × Int) Unit (Bool) := lp0 ⟨[3, 4, 5, 6, 7, 8, 9, 10], [700], [], []⟩ (fun (_, v9, v10) => [.dat (iN (W ((1 : Int) + (Int.tmod a0.e0 (7 : Int))))), .dat (iN (W ((1 : Int) + (Int.tmod a0.e1 (3 : Int))))), .dat (iN v5), .mp 700, .dat (iN v7), .dat (iN v8), .dat (strN v9), .dat (iN v10)]) (fun (_, _, _) => [.mp (encM strN bN b700)]) (fun (n, v9, v10) => f12_14 a0 v5 v7 v8 b700 k3 n v9 v10)
theorem Ef12_14 {a0 v5 v7 v8 b700 k3 n v9 v10} : (Lf12_14 a0 v5 v7 v8 b700 k3).E (n, v9, v10) = f12_14 a0 v5 v7 v8 b700 k3 n v9 v10 := rfl
def f12_10b (r10 : Int → Int → (List (ByteArray × Bool)) → Option (Bool)) (a0 : A2u8N) (N : Nat) (v5 : Int) (k0 : Int → (List (ByteArray × Bool)) → Option (Bool)) (v7 : Int) (v8 : Int) (b700 : List (ByteArray × Bool)) : Option (Bool) :=
 bif decide (v8 < v5) then (joinK (f12_c11 a0 v5 v8 r10) fun k1 =>
 joinK (f12_c17 a0 N v5 v7 v8 b700 k1) fun k3 =>
 f12_14 a0 v5 v7 v8 b700 k3 N emptyS v8)
 else (k0 v7 b700)
def f12_10 (a0 : A2u8N) (N : Nat) (v5 : Int) (k0 : Int → (List (ByteArray × Bool)) → Option (Bool)) : Nat → Int → Int → (List (ByteArray × Bool)) → Option (Bool)
  | 0, _, _, _ => none
  | n + 1, v7, v8, b700 => f12_10b (f12_10 a0 N v5 k0 n) a0 N v5 k0 v7 v8 b700
def Lf12_10 (a0 : A2u8N) (N : Nat) (v5 : Int) (k0 : Int → (List (ByteArray × Bool)) → Option (Bool)) : Lp (Nat × Int × Int × (List (ByteArray × Bool))) Unit (Bool) := lp0 ⟨[3, 4, 5, 6, 7, 8], [700], [], []⟩ (fun (_, v7, v8, _) => [.dat (iN (W ((1 : Int) + (Int.tmod a0.e0 (7 : Int))))), .dat (iN (W ((1 : Int) + (Int.tmod a0.e1 (3 : Int))))), .dat (iN v5), .mp 700, .dat (iN v7), .dat (iN v8)]) (fun (_, _, _, b700) => [.mp (encM strN bN b700)]) (fun (n, v7, v8, b700) => f12_10 a0 N v5 k0 n v7 v8 b700)
theorem Ef12_10 {a0 N v5 k0 n v7 v8 b700} : (Lf12_10 a0 N v5 k0).E (n, v7, v8, b700) = f12_10 a0 N v5 k0 n v7 v8 b700 := rfl
def f12_c7 (a0 : A2u8N) (N : Nat) (v5 : Int) : Option (Bool) :=
 joinK (f12_c29 a0 N v5) fun k0 =>
 f12_10 a0 N v5 k0 N (0 : Int) (0 : Int) []
def Lf12_c7 (a0 : A2u8N) (N : Nat) : Lp (Int) Unit (Bool) := lp0 ⟨[3, 4, 5], [], [], []⟩ (fun v5 => [.dat (iN (W ((1 : Int) + (Int.tmod a0.e0 (7 : Int))))), .dat (iN (W ((1 : Int) + (Int.tmod a0.e1 (3 : Int))))), .dat (iN v5)]) (fun _ => []) (fun v5 => f12_c7 a0 N v5)
theorem Ef12_c7 {a0 N v5} : (Lf12_c7 a0 N).E v5 = f12_c7 a0 N v5 := rfl
def f12_4b (r4 : Int → Int → Option (Bool)) (a0 : A2u8N) (k4 : Int → Option (Bool)) (v5 : Int) (v31 : Int) : Option (Bool) :=
 bif decide (v31 < (W ((1 : Int) + (Int.tmod a0.e0 (7 : Int))))) then (r4 (W (v5 * (W ((1 : Int) + (Int.tmod a0.e1 (3 : Int)))))) (W (v31 + (1 : Int))))
 else (k4 v5)
def f12_4 (a0 : A2u8N) (k4 : Int → Option (Bool)) : Nat → Int → Int → Option (Bool)
  | 0, _, _ => none
  | n + 1, v5, v31 => f12_4b (f12_4 a0 k4 n) a0 k4 v5 v31
def Lf12_4 (a0 : A2u8N) (k4 : Int → Option (Bool)) : Lp (Nat × Int × Int) Unit (Bool) := lp0 ⟨[3, 4, 5, 30, 31], [], [], []⟩ (fun (_, v5, v31) => [.dat (iN (W ((1 : Int) + (Int.tmod a0.e0 (7 : Int))))), .dat (iN (W ((1 : Int) + (Int.tmod a0.e1 (3 : Int))))), .dat (iN v5), .dat (iN (W ((1 : Int) + (Int.tmod a0.e0 (7 : Int))))), .dat (iN v31)]) (fun (_, _, _) => []) (fun (n, v5, v31) => f12_4 a0 k4 n v5 v31)
theorem Ef12_4 {a0 k4 n v5 v31} : (Lf12_4 a0 k4).E (n, v5, v31) = f12_4 a0 k4 n v5 v31 := rfl
def f12 (N : Nat) (a0 : A2u8N) : Option (Bool) :=
 joinK (f12_c7 a0 N) fun k4 =>
 f12_4 a0 k4 N (1 : Int) (0 : Int)
def G12 (ds : List D) (d : D) : Prop := ∃ (N : Nat) (a0 : A2u8N) (r : Bool), ds = [A2u8N.d a0] ∧ f12 N a0 = some r ∧ d = bN r
set_option maxRecDepth 20000 in
set_option maxHeartbeats 4000000 in
theorem P12 : PureOK Try.prog 12 G12 := by
  refine pure_of_vc (c := mkCtx tyTree [(33, true, lendPg [[0], [0]] G33), (29, true, lendPg [[0]] G29), (18, true, lendPg [[0]] G18), (15, true, lendPg [] G15)]) rfl tyOK (ctx_lend (callable Try.func33 rfl rfl) P33 (ctx_lend (callable Try.func29 rfl rfl) P29 (ctx_lend (callable Try.func18 rfl rfl) P18 (ctx_lend (callable Try.func15 rfl rfl) P15 (ctx_nil))))) [[0]] 1 Try.func12 rfl rfl (by decide) (by kernel_rfl) ?_
  rintro ds d ⟨N, a0, r, rfl, hF, rfl⟩ hok
  clear hok
  refine ⟨rfl, ?_⟩
  show vc _ _ _ _ ⟨[(0, .dat (A2u8N.d a0))], []⟩ _
  unfold f12 at hF
  repeat' (first
    | ((with_reducible first | refine q0 _ _ ?_ | refine q1 _ _ _ _ ?_ | refine q2 _ _ _ ?_); clear Q q0 q1 q2)
    | ((with_reducible first | refine seq_op ?hx (fun Q q0 q1 q2 => ?_) | refine draw_op ?hx (fun Q q0 q1 q2 => ?_) | refine seq_op0 ?hx (fun Q q0 q1 q2 => ?_) | refine draw_op0 ?hx (fun Q q0 q1 q2 => ?_)); (case hx => exact rfl); conv => whnf)
    | ((with_reducible first | refine seq_off ?hx ?_ | refine seq_off0 ?hx ?_ | refine draw_off ?hx ?_ | refine draw_off0 ?hx ?_ | refine k_blk_out ?hx ?_ | refine vc_condT ?hx ?_); (case hx => exact rfl))
    | ((with_reducible refine seq_id ?_); (first | ((first | refine seq_opK rfl ?hy (fun Q q0 q1 q2 => ?_) | refine seq_opK0 rfl ?hy (fun Q q0 q1 q2 => ?_)); (case hy => first | assumption | exact notT (by assumption) | exact rfl); conv => whnf) | ((first | refine seq_offK rfl ?hy ?_ | refine seq_offK0 rfl ?hy ?_); (case hy => first | assumption | exact notF (by assumption) | exact rfl)) | (revert hF; (with_reducible first | refine seq_opF ?hx ?_ ?_ | refine seq_opF0 ?hx ?_ ?_); (case hx => exact rfl); (intro hc hF Q q0 q1 q2; conv => whnf); rotate_left; (intro hc hF); rotate_right) | (revert hF; (with_reducible first | refine seq_opN ?hx ?_ ?_ | refine seq_opN0 ?hx ?_ ?_); (case hx => exact rfl); (intro hc hF); rotate_left; (intro hc hF Q q0 q1 q2; conv => whnf); rotate_right)))
    | ((with_reducible refine cond_id ?_); (first | ((refine condKT rfl ?hy ?_); (case hy => first | assumption | exact notT (by assumption) | exact rfl)) | ((refine condKF rfl ?hy ?_); (case hy => first | assumption | exact notF (by assumption) | exact rfl)) | (revert hF; (with_reducible refine condF ?hx ?_ ?_); (case hx => exact rfl); all_goals (intro hc hF))))
    | ((with_reducible refine seq_nil ?_); (first | ((with_reducible refine hR _ ?_); clear R hR) | ((with_reducible refine hL _ ?_); clear L hL)))
    | ((with_reducible refine draw_nil ?_); (with_reducible refine hR _ _ ?hx ?_); (case hx => kernel_rfl); (first | clear R hR | clear hR))
    | ((with_reducible first | refine int_step ?_); conv => whnf)
    | (with_reducible first | refine vc_block ?_ | refine vc_skip ?_ | refine vc_ret ?_ | refine vc_exit ?_ | refine vc_region (fun R hR => ?_) | refine k_seq_ret ?_ | refine k_seq_exit ?_ | refine k_blk ?_ | refine k_blk_ret ?_ | refine k_blk_here ?_ | refine k_loop_ret ?_ | refine k_loop_exit ?_)
    | ((with_reducible refine vc_seqN [29, 11, 22, 17, 7] ?hx ?_); (case hx => exact rfl))
    | ((with_reducible refine vc_draw ?hx (fun R hR => ?_)); (case hx => exact rfl))
    | (revert hF; (refine Lp.cut3 Lf12_c29 f12_c29 29 rfl rfl ?_ ?_); (intro hF); rotate_left; (rintro ⟨v7, b700⟩ hF; dsimp only [Lf12_c29] at hF; unfold f12_c29 at hF); rotate_right)
    | exact Lp.head Ef12_c29 hF () ⟨_, rfl, rfl, rfl, rfl⟩ rfl
    | (revert hF; (refine Lp.cut4 Lf12_c11 f12_c11 11 rfl rfl ?_ ?_); (intro hF); rotate_left; (rintro ⟨v7', b700'⟩ hF; dsimp only [Lf12_c11] at hF; unfold f12_c11 at hF); rotate_right)
    | exact Lp.head Ef12_c11 hF () ⟨_, rfl, rfl, rfl, rfl⟩ rfl
    | (revert hF; (refine Lp.cut8 Lf12_c22 f12_c22 22 rfl rfl ?_ ?_); (intro hF); rotate_left; (rintro v11 hF; dsimp only [Lf12_c22] at hF; unfold f12_c22 at hF); rotate_right)
    | exact Lp.head Ef12_c22 hF () ⟨_, rfl, rfl, rfl, rfl⟩ rfl
    | (revert hF; (refine Lp.loop Ef12_19 () rfl ⟨_, rfl, rfl, rfl, rfl⟩ rfl (fun _ => rfl) ?_); rintro n ⟨v11, p1801⟩ hF; dsimp only [Lf12_19, f12_19] at hF; unfold f12_19b at hF)
    | exact Lp.back Ef12_19 hF () ⟨_, rfl, rfl, rfl, rfl⟩ rfl
    | (revert hF; (refine Lp.cut7 Lf12_c17 f12_c17 17 rfl rfl ?_ ?_); (intro hF); rotate_left; (rintro v9 hF; dsimp only [Lf12_c17] at hF; unfold f12_c17 at hF); rotate_right)
    | exact Lp.head Ef12_c17 hF () ⟨_, rfl, rfl, rfl, rfl⟩ rfl
    | (revert hF; (refine Lp.loop Ef12_14 () rfl ⟨_, rfl, rfl, rfl, rfl⟩ rfl (fun _ => rfl) ?_); rintro n ⟨v9, v10⟩ hF; dsimp only [Lf12_14, f12_14] at hF; unfold f12_14b at hF)
    | exact Lp.back Ef12_14 hF () ⟨_, rfl, rfl, rfl, rfl⟩ rfl
    | (revert hF; (refine Lp.loop Ef12_10 () rfl ⟨_, rfl, rfl, rfl, rfl⟩ rfl (fun _ => rfl) ?_); rintro n ⟨v7, v8, b700⟩ hF; dsimp only [Lf12_10, f12_10] at hF; unfold f12_10b at hF)
    | exact Lp.back Ef12_10 hF () ⟨_, rfl, rfl, rfl, rfl⟩ rfl
    | (revert hF; (refine Lp.cut2 Lf12_c7 f12_c7 7 rfl rfl ?_ ?_); (intro hF); rotate_left; (rintro v5 hF; dsimp only [Lf12_c7] at hF; unfold f12_c7 at hF); rotate_right)
    | exact Lp.head Ef12_c7 hF () ⟨_, rfl, rfl, rfl, rfl⟩ rfl
    | (revert hF; (refine Lp.loop Ef12_4 () rfl ⟨_, rfl, rfl, rfl, rfl⟩ rfl (fun _ => rfl) ?_); rintro n ⟨v5, v31⟩ hF; dsimp only [Lf12_4, f12_4] at hF; unfold f12_4b at hF)
    | exact Lp.back Ef12_4 hF () ⟨_, rfl, rfl, rfl, rfl⟩ rfl
    | (revert hF; (with_reducible refine G15.lend ?hx ?_); (case hx => exact rfl); intro v hF; conv => whnf)
    | (revert hF; (with_reducible refine G18.lend ?hx ?_); (case hx => exact rfl); intro v hF; conv => whnf)
    | (revert hF; (with_reducible refine G29.lend ?hx ?_); (case hx => exact rfl); intro v hF; conv => whnf)
    | (revert hF; (with_reducible refine G33.lend ?hx ?_); (case hx => exact rfl); intro v hF; conv => whnf)
    | (revert hF; (refine subS_step ?_); intro x hF; conv => whnf)
    | (revert hF; (refine addS_step ?_); intro x hF; conv => whnf)
    | (revert hF; (refine lenM_step ?_); intro x hF; conv => whnf)
    | (revert hF; (refine some_step ?_); intro x hF; conv => whnf)
    | (revert hF; (refine look_step (eK := strN) (eV := bN) strN_inj ?hk ?hz ?hd ?he ?_); (case hk => exact fun _ => rfl); (case hz => exact rfl); (case hd => exact rfl); (case he => exact rfl); intro x hF; conv => whnf)
    | (revert hF; (refine put_step (eK := strN) (eV := bN) strN_inj ?hk ?hv ?hd ?he ?_); (case hk => exact fun _ => rfl); (case hv => exact rfl); (case hd => exact rfl); (case he => exact rfl); intro x hF; conv => whnf)
    | ((refine row_all ?hn ?_); (case hn => first | exact rfl | (simp; done) | (simp; omega)); conv => whnf)
    | ((with_reducible refine le_step ?hn ?_); (case hn => first | exact rfl | assumption | omega); conv => whnf)
    | ((refine ⟨?hx, ?_⟩); (case hx => exact ⟨rfl, Nat.le_of_ble_eq_true rfl, rfl⟩); conv => whnf)
    | ((with_reducible refine ex_step ?_); conv => whnf)
    | ((with_reducible have hG := chk_fact hF); clear hF; (refine ⟨?hx, ?_⟩); (case hx => (first | exact of_decide_eq_true hG.1 | exact hG.1)); have hF := hG.2; clear hG; conv => whnf)
    | ((with_reducible refine both_T ?hx ?_); (case hx => first | exact rfl | assumption | exact notT (by assumption)); conv => whnf)
    | ((with_reducible refine both_F ?hx ?_); (case hx => first | exact rfl | assumption | exact notF (by assumption)); conv => whnf)
    | (revert hF; (with_reducible refine ite_step ?_ ?_) <;> (intro hc hF; conv => whnf))
    | ((with_reducible refine vc_condF ?hx ?_); (case hx => exact rfl))
    | (show retD _ _ _ _ _ _; conv => whnf)
    | ((refine ⟨?hx, trivial⟩); (case hx => (cases hF; exact rfl)))
    | ((refine ⟨?hx, ?_⟩); (case hx => decide); conv => whnf)
    | with_reducible refine k_seq ?_
    | (have hF : (none : Option _) = some _ := hF; cases hF))
end
end Go.Vc
namespace Go.Vc
set_option linter.unusedVariables false
set_option linter.unnecessarySimpa false
set_option linter.unusedSimpArgs false
section
variable {α β σ : Type}
theorem loop_inv {F : Nat → σ → Int → Option β} {k : σ → Option β} (g : σ → Nat → σ) (Inv : Nat → σ → Prop) (len : Nat)
    (hs : ∀ n s i, i < len → Inv i s → F (n + 1) s (i : Int) = F n (g s i) ((i + 1 : Nat) : Int)) (hi : ∀ s i, i < len → Inv i s → Inv (i + 1) (g s i)) (he : ∀ n s, F (n + 1) s (len : Int) = k s) :
    ∀ n i s, i ≤ len → len - i < n → Inv i s → F n s (i : Int) = k ((List.range' i (len - i)).foldl g s) ∧ Inv len ((List.range' i (len - i)).foldl g s) := by
  intro n
  induction n with
  | zero => intro i s _ h; omega
  | succ n ih =>
    intro i s hl hn h0
    by_cases h : i = len
    · subst h
      rw [he, Nat.sub_self]; exact ⟨rfl, h0⟩
    · rw [hs n s i (by omega) h0]
      obtain ⟨h1, h2⟩ := ih (i + 1) (g s i) (by omega) (by omega) (hi s i (by omega) h0)
      rw [show len - i = (len - (i + 1)) + 1 by omega, List.range'_succ]
      exact ⟨h1, h2⟩
theorem loop_inv0 {F : Nat → σ → Int → Option β} {k : σ → Option β} (g : σ → Nat → σ) (Inv : Nat → σ → Prop) (len : Nat)
    (hs : ∀ n s i, i < len → Inv i s → F (n + 1) s (i : Int) = F n (g s i) ((i + 1 : Nat) : Int)) (hi : ∀ s i, i < len → Inv i s → Inv (i + 1) (g s i)) (he : ∀ n s, F (n + 1) s (len : Int) = k s)
    {n : Nat} {s : σ} (hn : len < n) (h0 : Inv 0 s) : F n s 0 = k ((List.range len).foldl g s) ∧ Inv len ((List.range len).foldl g s) := by
  have := loop_inv g Inv len hs hi he n 0 s (by omega) (by omega) h0
  rw [List.range_eq_range']
  simpa using this
end
end Go.Vc
namespace Go.Vc
open Go.Proofs
set_option linter.unusedVariables false
set_option linter.unnecessarySimpa false
set_option linter.unusedSimpArgs false
end Go.Vc
namespace Go.Vc
open Go.Proofs
set_option linter.unusedVariables false
set_option linter.unnecessarySimpa false
set_option linter.unusedSimpArgs false
end Go.Vc
namespace Go.Vc
set_option linter.unusedVariables false
set_option linter.unnecessarySimpa false
set_option linter.unusedSimpArgs false
set_option linter.unusedSimpArgs false
section
variable {l m : List UInt8}
@[simp] theorem strC_size : (strC l).size = l.length := by simp [strC, ByteArray.size]
@[simp] theorem strC_toList : (strC l).data.toList = l := by simp [strC]
theorem strC_inj : strC l = strC m ↔ l = m := by
  constructor
  · intro h
    have := congrArg (fun s : ByteArray => s.data.toList) h
    simpa using this
  · rintro rfl; rfl
theorem emptyS_eq : emptyS = strC [] := rfl
theorem extract_L {a b : Nat} : (strC l).extract a b = strC ((l.take b).drop a) := by
  have h : ∀ s : ByteArray, s = strC s.data.toList := fun s => by cases s; simp [strC]
  rw [h ((strC l).extract a b)]
  simp [ByteArray.data_extract, List.drop_take, strC]
theorem subS_L {a b : Nat} (h : a ≤ b) (h' : b ≤ l.length) : subS (strC l) (a : Int) (b : Int) = some (strC ((l.take b).drop a)) := by
  unfold subS
  rw [if_pos ⟨by omega, by omega, by simp; omega⟩]
  simp only [Int.toNat_natCast, subStr, extract_L]
theorem append_L : strC l ++ strC m = strC (l ++ m) := by
  have h : ∀ s : ByteArray, s = strC s.data.toList := fun s => by cases s; simp [strC]
  rw [h (strC l ++ strC m)]
  simp [strC]
theorem addS_L (h : l.length + m.length ≤ 1000000) : addS (strC l) (strC m) = some (strC (l ++ m)) := by
  unfold addS
  rw [if_pos (by simp [maxLen]; omega), append_L]
theorem byteAt_L {i : Nat} (h : i < l.length) : byteAt (strC l) i = (l[i].toNat : Int) := by
  unfold byteAt
  simp [h]
theorem toNat_inj {a b : UInt8} : (a.toNat : Int) = (b.toNat : Int) ↔ a = b := by
  constructor
  · intro h; exact UInt8.toNat_inj.1 (by omega)
  · rintro rfl; rfl
theorem rune_lo {p : Nat} (h : p < l.length) (hb : l[p].toNat < 128) : runeAt (strC l) p = ((l[p].toNat : Int), p + 1) := by
  have hs : p < (strC l).size := by simpa using h
  have he : (strC l)[p] = l[p] := by
    have h1 : byteAt (strC l) p = _ := (str_get (strC l) p hs).2.symm
    have h2 := byteAt_L h
    exact toNat_inj.1 (h1.symm.trans h2)
  unfold runeAt
  rw [decode_ascii (strC l) p hs (by rw [he]; omega)]
  simp only [he]
  rfl
theorem rune_hi {p : Nat} (h : p < l.length) (hb : 128 ≤ l[p].toNat) : 128 ≤ (runeAt (strC l) p).1 := by
  have hs : p < (strC l).size := by simpa using h
  have he : (strC l)[p] = l[p] := by
    have h1 : byteAt (strC l) p = _ := (str_get (strC l) p hs).2.symm
    have h2 := byteAt_L h
    exact toNat_inj.1 (h1.symm.trans h2)
  have := (decode_high (strC l) p hs (by rw [he]; omega)).1
  show (128 : Int) ≤ ((Utf8.decode (strC l) p).1 : Int)
  omega
end
def okb (b : UInt8) : Bool := decide (97 ≤ b.toNat) && decide (b.toNat ≤ 122)
def chk8 (l : List UInt8) : Int := if l = [] then 1 else if 24 < l.length then 19 else if l.all okb then 0 else 9
theorem drop_all {l : List UInt8} {p : Nat} (h : p < l.length) : (l.drop p).all okb = (okb l[p] && (l.drop (p + 1)).all okb) := by
  rw [List.drop_eq_getElem_cons h]; rfl
theorem okb_lo {b : UInt8} (h : (b.toNat : Int) < 97) : okb b = false := by simp [okb]; omega
theorem okb_hi {b : UInt8} (h : (122 : Int) < (b.toNat : Int)) : okb b = false := by simp [okb]; omega
theorem okb_in {b : UInt8} (h : ¬ (b.toNat : Int) < 97) (h' : ¬ (122 : Int) < (b.toNat : Int)) : okb b = true := by simp [okb]; omega
theorem f23_loop {l : List UInt8} {k0 : Option Int} : ∀ (n p : Nat), l.length - p < n → p ≤ l.length → f23_6 (strC l) k0 n p = if (l.drop p).all okb then k0 else some 9 := by
  intro n
  induction n with
  | zero => intro p h; omega
  | succ n ih =>
    intro p hn hp
    unfold f23_6 f23_6b
    by_cases h : p < l.length
    · simp only [strC_size, h, decide_true, cond_true, Option.bind_some]
      rw [drop_all h]
      by_cases hb : l[p].toNat < 128
      · rw [rune_lo h hb]
        by_cases h1 : (l[p].toNat : Int) < 97
        · simp [h1, okb_lo h1]
        · by_cases h2 : (122 : Int) < l[p].toNat
          · simp [h1, h2, okb_hi h2]
          · simp only [h1, h2, decide_false, cond_false, okb_in h1 h2, Bool.true_and]
            rw [ih (p + 1) (by omega) (by omega)]
      · have := rune_hi h (by omega)
        simp only [show ¬ (runeAt (strC l) p).1 < 97 by omega, show (122 : Int) < (runeAt (strC l) p).1 by omega, decide_false, decide_true, cond_false, cond_true]
        rw [okb_hi (by omega)]; simp
    · have : p = l.length := by omega
      subst this
      simp
theorem f23_eq {l : List UInt8} {N : Nat} (hN : 30 ≤ N) : f23 N (strC l) = some (chk8 l) := by
  unfold f23 chk8
  by_cases h : l = []
  · subst h; simp [emptyS_eq]
  · simp only [emptyS_eq, strC_inj, h, decide_false, cond_false, strC_size, if_false]
    by_cases h2 : 24 < l.length
    · simp [h2, show (24 : Int) < (l.length : Int) by omega]
    · simp only [show ¬ (24 : Int) < (l.length : Int) by omega, decide_false, cond_false, joinK]
      rw [f23_loop N 0 (by omega) (by omega)]
      simp [h2, f23_c10]
      split <;> rfl
theorem chk8_zero {l : List UInt8} : chk8 l = 0 ↔ l ≠ [] ∧ l.length ≤ 24 ∧ l.all okb = true := by
  unfold chk8
  by_cases h : l = [] <;> by_cases h2 : 24 < l.length <;> by_cases h3 : l.all okb = true <;> simp [h, h2, h3] <;> omega
def isP (l : List UInt8) (p : Nat) : Bool := (l.drop p).isPrefixOf l
theorem isP_iff {l : List UInt8} {p : Nat} : isP l p = true ↔ ∀ i, (h : i + p < l.length) → l[i] = l[i + p] := by
  unfold isP
  rw [List.isPrefixOf_iff_prefix, List.prefix_iff_getElem?]
  constructor
  · intro h i hi
    have := h i (by simp; omega)
    rw [List.getElem_drop] at this
    rw [List.getElem?_eq_getElem (by omega)] at this
    have := Option.some.inj this
    rw [this]
    congr 1
    omega
  · intro h i hi
    simp at hi
    rw [List.getElem?_eq_getElem (by omega), h i (by omega), List.getElem_drop]
    congr 2
    omega
end Go.Vc
namespace Go.Vc
open Go.Proofs
set_option linter.unusedVariables false
set_option linter.unnecessarySimpa false
set_option linter.unusedSimpArgs false
end Go.Vc
namespace Go.Vc
open Go.Proofs
set_option linter.unusedVariables false
set_option linter.unnecessarySimpa false
set_option linter.unusedSimpArgs false
end Go.Vc
namespace Go.Vc
open Go.Proofs
set_option linter.unusedVariables false
set_option linter.unnecessarySimpa false
set_option linter.unusedSimpArgs false
end Go.Vc
namespace Go.Vc
open Go.Proofs
set_option linter.unusedVariables false
set_option linter.unnecessarySimpa false
set_option linter.unusedSimpArgs false
end Go.Vc
namespace Go.Vc
open Go.Proofs
set_option linter.unusedVariables false
set_option linter.unnecessarySimpa false
set_option linter.unusedSimpArgs false
set_option linter.unusedSimpArgs false
def perN (l : List UInt8) : List Nat := (List.range' 1 l.length).filter (isP l)
def toI (l : List Nat) : List Int := l.map fun (i : Nat) => (i : Int)
theorem isPer_L {l : List UInt8} {p : Nat} : isPer (strC l) p = isP l p := by
  unfold isPer isP Lib.hasPrefix
  rw [strC_size, extract_L, strC_toList, strC_toList, List.take_length]
theorem perL_L {l : List UInt8} : perL (strC l) = toI (perN l) := by
  unfold perL perTo perN toI
  rw [strC_size, Nat.add_sub_cancel]
  congr 1
  exact List.filter_congr fun x _ => isPer_L
theorem chk8_len {l : List UInt8} (h : chk8 l = 0) : l.length ≤ 24 := (chk8_zero.1 h).2.1
def rootN (l : List UInt8) : Nat := ((List.range' 1 l.length).find? fun p => decide (l.length % p = 0) && isP l p).getD l.length
theorem isP_len {l : List UInt8} : isP l l.length = true := by simp [isP]
theorem rootN_spec {l : List UInt8} (h : l ≠ []) : 1 ≤ rootN l ∧ rootN l ≤ l.length ∧ l.length % rootN l = 0 ∧ isP l (rootN l) = true ∧ ∀ q, 1 ≤ q → q < rootN l → ¬ (l.length % q = 0 ∧ isP l q = true) := by
  have hl : 0 < l.length := List.length_pos_iff.2 h
  unfold rootN
  cases hf : (List.range' 1 l.length).find? fun p => decide (l.length % p = 0) && isP l p with
  | none =>
    rw [List.find?_eq_none] at hf
    exact absurd (hf l.length (by rw [List.mem_range'_1]; omega)) (by simp [isP_len])
  | some p =>
    obtain ⟨hp, pre, suf, hab, hno⟩ := List.find?_eq_some_iff_append.1 hf
    have hm : p ∈ List.range' 1 l.length := by rw [hab]; simp
    rw [List.mem_range'_1] at hm
    simp at hp
    refine ⟨hm.1, by simp; omega, hp.1, hp.2, fun q h1 h2 => ?_⟩
    simp at h2
    have hq : q ∈ List.range' 1 l.length := by rw [List.mem_range'_1]; omega
    rw [hab] at hq
    rcases List.mem_append.1 hq with hq | hq
    · have := hno q hq
      simp at this
      rintro ⟨a, b⟩
      rcases this with h | h
      · exact h a
      · rw [h] at b; cases b
    · -- behind p are greater ones
      have hs : (List.range' 1 l.length).Pairwise (· < ·) := List.pairwise_lt_range'
      rw [hab, List.pairwise_append] at hs
      rcases List.mem_cons.1 hq with rfl | hq
      · omega
      · have := (List.pairwise_cons.1 hs.2.1).1 q hq
        omega
theorem rootR_find {l : List UInt8} (L : List Nat) (hL : ∀ p ∈ L, 1 ≤ p) : rootR (strC l) (toI (L.filter (isP l))) = match L.find? (fun p => decide (l.length % p = 0) && isP l p) with
    | some p => (strC (l.take p), ((l.length / p : Nat) : Int))
    | none => (strC l, 1) := by
  induction L with
  | nil => rfl
  | cons p L ih =>
    have ih := ih fun q hq => hL q (by simp [hq])
    have h1 := hL p (by simp)
    by_cases hp : isP l p = true
    · simp only [List.filter_cons, hp, if_true, toI, List.map_cons, rootR, strC_size, List.find?_cons]
      by_cases hd : l.length % p = 0
      · have : ((l.length : Int) % (p : Int)) = 0 := by omega
        simp only [this, if_true, hd, decide_true, Bool.and_self]
        rw [Int.toNat_natCast, extract_L]
        simp
      · have : ¬ ((l.length : Int) % (p : Int)) = 0 := by omega
        simp only [this, if_false, hd, decide_false, Bool.false_and]
        exact ih
    · simp only [Bool.not_eq_true] at hp
      simp only [List.filter_cons, hp, List.find?_cons, Bool.and_false]
      exact ih
theorem rootR_L {l : List UInt8} (h : l ≠ []) : rootR (strC l) (perL (strC l)) = (strC (l.take (rootN l)), ((l.length / rootN l : Nat) : Int)) := by
  rw [perL_L]
  unfold perN
  rw [rootR_find _ (by intro p hp; rw [List.mem_range'_1] at hp; exact hp.1)]
  have hl : 0 < l.length := List.length_pos_iff.2 h
  unfold rootN
  cases hf : (List.range' 1 l.length).find? fun p => decide (l.length % p = 0) && isP l p with
  | none =>
    rw [List.find?_eq_none] at hf
    exact absurd (hf l.length (by rw [List.mem_range'_1]; omega)) (by simp [isP_len])
  | some p => rfl
theorem chk8_rng (l : List UInt8) : 0 ≤ chk8 l ∧ chk8 l ≤ 1000 := by
  unfold chk8
  split
  · omega
  · split
    · omega
    · split <;> omega
theorem f18_eq {l : List UInt8} {N : Nat} (hN : 30 ≤ N) (hl : l.length ≤ 100) :
    f18 N (strC l) = some (if chk8 l = 0 then (strC (l.take (rootN l)), ((l.length / rootN l : Nat) : Int), 0) else (emptyS, 0, chk8 l)) := by
  unfold f18
  rw [if_pos (by simp; omega), f23_eq hN, Option.bind_some]
  have hc := chk8_rng l
  have hr : 0 ≤ (rootR (strC l) (perL (strC l))).2 ∧ (rootR (strC l) (perL (strC l))).2 ≤ 1000 ∧ (rootR (strC l) (perL (strC l))).1.size ≤ 1000 := by
    by_cases h : l = []
    · subst h
      rw [perL_L]; simp [perN, toI, rootR]
    · rw [rootR_L h]
      have := Nat.div_le_self l.length (rootN l)
      generalize l.length / rootN l = q at *
      refine ⟨by simp only []; omega, by simp only []; omega, ?_⟩
      simp
      omega
  rw [if_pos ⟨hc.1, hc.2, hr.1, hr.2.1, hr.2.2⟩]
  by_cases h : chk8 l = 0
  · rw [if_pos h, if_pos h, rootR_L (chk8_zero.1 h).1]
  · rw [if_neg h, if_neg h]
end Go.Vc
namespace Go.Vc
open Go.Proofs
set_option linter.unusedVariables false
set_option linter.unnecessarySimpa false
set_option linter.unusedSimpArgs false
end Go.Vc
namespace Go.Vc
open Go.Proofs
set_option linter.unusedVariables false
set_option linter.unnecessarySimpa false
set_option linter.unusedSimpArgs false
end Go.Vc
namespace Go.Vc
open Go.Proofs
set_option linter.unusedVariables false
set_option linter.unnecessarySimpa false
set_option linter.unusedSimpArgs false
set_option linter.unusedSimpArgs false
theorem bytesLess_lt : ∀ (x y : List UInt8), Op.bytesLess x y = decide (x < y)
  | [], [] => by simp [Op.bytesLess]
  | _ :: _, [] => by simp [Op.bytesLess]
  | [], _ :: _ => by simp [Op.bytesLess]
  | a :: x, b :: y => by
    rw [Op.bytesLess, bytesLess_lt x y]
    simp only [List.cons_lt_cons_iff]
    by_cases h1 : a < b <;> by_cases h2 : a = b <;> by_cases h3 : x < y <;> simp [h1, h2, h3]
theorem strLt_L {l m : List UInt8} : strLt (strC l) (strC m) = decide (l < m) := by
  unfold strLt
  rw [strC_toList, strC_toList, bytesLess_lt]
theorem lex_irrefl (l : List UInt8) : ¬ l < l := List.lt_irrefl l
theorem lex_tri {l m : List UInt8} (h1 : ¬ l < m) (h2 : ¬ m < l) : l = m := List.le_antisymm (List.not_lt.1 h2) (List.not_lt.1 h1)
theorem lex_asymm {l m : List UInt8} (h : l < m) : ¬ m < l := fun h' => List.lt_irrefl l (List.lt_trans h h')
theorem lex_le_trans {a b c : List UInt8} (h1 : ¬ b < a) (h2 : ¬ c < b) : ¬ c < a := by
  intro h
  by_cases h3 : a = b
  · subst h3; exact h2 h
  · have : a < b := by
      by_cases h4 : a < b
      · exact h4
      · exact absurd (lex_tri h4 h1) h3
    exact h2 (List.lt_trans h this)
def leastOf (L : List (List UInt8)) (o : List UInt8) : List UInt8 := L.foldl (fun o x => if x < o then x else o) o
theorem leastOf_spec : ∀ (L : List (List UInt8)) (o : List UInt8), (leastOf L o = o ∨ leastOf L o ∈ L) ∧ (∀ x ∈ L, ¬ x < leastOf L o) ∧ ¬ o < leastOf L o := by
  intro L
  induction L with
  | nil => intro o; exact ⟨.inl rfl, by simp, lex_irrefl o⟩
  | cons x L ih =>
    intro o
    simp only [leastOf, List.foldl_cons]
    by_cases h : x < o
    · rw [if_pos h]
      obtain ⟨h1, h2, h3⟩ := ih x
      refine ⟨.inr ?_, fun y hy => ?_, ?_⟩
      · rcases h1 with h1 | h1
        · rw [show List.foldl (fun o x => if x < o then x else o) x L = x from h1]; simp
        · exact List.mem_cons_of_mem _ h1
      · rcases List.mem_cons.1 hy with rfl | hy
        · exact h3
        · exact h2 y hy
      · exact lex_le_trans h3 (lex_asymm h)
    · rw [if_neg h]
      obtain ⟨h1, h2, h3⟩ := ih o
      refine ⟨?_, fun y hy => ?_, h3⟩
      · rcases h1 with h1 | h1
        · exact .inl h1
        · exact .inr (List.mem_cons_of_mem _ h1)
      · rcases List.mem_cons.1 hy with rfl | hy
        · exact lex_le_trans h3 h
        · exact h2 y hy
def rot (l : List UInt8) (i : Nat) : List UInt8 := l.drop i ++ l.take i
theorem rot_len {l : List UInt8} {i : Nat} : (rot l i).length = l.length := by simp [rot]; omega
theorem rot_zero {l : List UInt8} : rot l 0 = l := by simp [rot]
theorem rot_full {l : List UInt8} : rot l l.length = l := by simp [rot]
theorem rot_get {l : List UInt8} {i x : Nat} (hi : i ≤ l.length) (hx : x < l.length) : (rot l i)[x]? = l[(x + i) % l.length]? := by
  unfold rot
  by_cases h : x < l.length - i
  · rw [List.getElem?_append_left (by simp; omega), List.getElem?_drop, Nat.mod_eq_of_lt (by omega), Nat.add_comm]
  · rw [List.getElem?_append_right (by simp; omega), List.length_drop, List.getElem?_take_of_lt (by omega)]
    congr 1
    rw [Nat.mod_eq_sub_mod (by omega), Nat.mod_eq_of_lt (by omega)]
    omega
theorem rot_rot {l : List UInt8} {i j : Nat} (h : l ≠ []) (hi : i ≤ l.length) (hj : j ≤ l.length) : rot (rot l i) j = rot l ((i + j) % l.length) := by
  have hl : 0 < l.length := List.length_pos_iff.2 h
  refine List.ext_getElem? fun x => ?_
  by_cases hx : x < l.length
  · rw [rot_get (by rw [rot_len]; exact hj) (by rw [rot_len]; exact hx), rot_len, rot_get hi (Nat.mod_lt _ hl), rot_get (Nat.le_of_lt (Nat.mod_lt _ hl)) hx]
    congr 1
    rw [Nat.mod_add_mod, Nat.add_mod_mod]
    congr 1; omega
  · rw [List.getElem?_eq_none (by rw [rot_len, rot_len]; omega), List.getElem?_eq_none (by rw [rot_len]; omega)]
def Turned (l m : List UInt8) : Prop := ∃ i, i ≤ l.length ∧ m = rot l i
theorem Turned.symm {l m : List UInt8} (h : Turned l m) : Turned m l := by
  obtain ⟨i, hi, rfl⟩ := h
  by_cases h : l = []
  · subst h; exact ⟨0, by simp, by simp [rot]⟩
  · refine ⟨l.length - i, by rw [rot_len]; omega, ?_⟩
    rw [rot_rot h hi (by omega), show i + (l.length - i) = l.length by omega, Nat.mod_self, rot_zero]
theorem Turned.trans {l m k : List UInt8} (h1 : Turned l m) (h2 : Turned m k) : Turned l k := by
  obtain ⟨i, hi, rfl⟩ := h1
  obtain ⟨j, hj, rfl⟩ := h2
  rw [rot_len] at hj
  by_cases h : l = []
  · subst h; exact ⟨0, by simp, by simp [rot]⟩
  · have hl : 0 < l.length := List.length_pos_iff.2 h
    exact ⟨(i + j) % l.length, Nat.le_of_lt (Nat.mod_lt _ hl), rot_rot h hi hj⟩
theorem Turned.refl {l : List UInt8} : Turned l l := ⟨0, Nat.zero_le _, rot_zero.symm⟩
def fstN (l : List UInt8) : List UInt8 := leastOf ((List.range l.length).map (rot l)) l
theorem fstN_turned {l : List UInt8} : Turned l (fstN l) := by
  rcases (leastOf_spec ((List.range l.length).map (rot l)) l).1 with h | h
  · unfold fstN; rw [h]; exact Turned.refl
  · obtain ⟨i, hi, e⟩ := List.mem_map.1 h
    exact ⟨i, by simp at hi; omega, e.symm⟩
theorem fstN_least {l m : List UInt8} (h : Turned l m) : ¬ m < fstN l := by
  obtain ⟨hs1, hs2, hs3⟩ := leastOf_spec ((List.range l.length).map (rot l)) l
  obtain ⟨i, hi, rfl⟩ := h
  by_cases he : i = l.length
  · subst he; rw [rot_full]; exact hs3
  · exact hs2 _ (List.mem_map.2 ⟨i, by simp; omega, rfl⟩)
theorem fstN_eq {l m : List UInt8} : fstN l = fstN m ↔ Turned l m := by
  constructor
  · intro h
    exact (h ▸ fstN_turned (l := l)).trans (fstN_turned (l := m)).symm
  · intro h
    exact lex_tri (fstN_least (h.symm.trans fstN_turned)) (fstN_least (h.trans fstN_turned))
theorem addS_rot {l : List UInt8} {i : Nat} (hl : l.length ≤ 1000) : addS (strC (l.drop i)) (strC (l.take i)) = some (strC (rot l i)) := addS_L (by simp; omega)
theorem sub_end {l : List UInt8} {i : Nat} (hi : i ≤ l.length) : subS (strC l) (i : Int) (l.length : Int) = some (strC (l.drop i)) := by
  rw [subS_L hi (Nat.le_refl _), List.take_length]
theorem sub_start {l : List UInt8} {i : Nat} (hi : i ≤ l.length) : subS (strC l) 0 (i : Int) = some (strC (l.take i)) := by
  have := subS_L (l := l) (a := 0) (b := i) (by omega) hi
  simpa using this
theorem foldl_least {l : List UInt8} (L : List Nat) (o : List UInt8) : L.foldl (fun o i => if rot l i < o then rot l i else o) o = leastOf (L.map (rot l)) o := by
  unfold leastOf; rw [List.foldl_map]
theorem f29_eq {l : List UInt8} {N : Nat} (hN : 30 ≤ N) : f29 N (strC l) = some (if chk8 l = 0 then (strC (fstN l), 0) else (emptyS, chk8 l)) := by
  unfold f29
  rw [f23_eq hN]
  by_cases h : chk8 l = 0
  · have := chk8_len h
    simp only [Option.bind_some, h, not_true, decide_false, cond_false, if_true, joinK]
    have := (loop_inv0 (F := fun n (o : List UInt8) i => f29_6 (strC l) f29_c10 n (strC o) i) (k := fun o => f29_c10 (strC o)) (fun o i => if rot l i < o then rot l i else o) (fun _ _ => True) l.length
      (fun n s i hi _ => by
        conv => lhs; unfold f29_6 f29_6b
        simp only [strC_size, show (i : Int) < (l.length : Int) by omega, decide_true, cond_true]
        rw [sub_end (by omega), sub_start (by omega)]
        simp only [Option.bind_some]
        rw [addS_rot (by omega)]
        simp only [Option.bind_some, minS, strLt_L, decide_eq_true_eq]
        rw [W_nat (by omega)]
        by_cases hh : rot l i < s <;> simp only [hh, if_true, if_false])
      (fun _ _ _ _ => trivial)
      (fun n s => by
        conv => lhs; unfold f29_6 f29_6b
        simp only [strC_size, Int.lt_irrefl, decide_false, cond_false]) (n := N) (s := l) (by omega) trivial).1
    rw [this, foldl_least]
    rfl
  · simp [h]
end Go.Vc
namespace Go.Vc
open Go.Proofs
set_option linter.unusedVariables false
set_option linter.unnecessarySimpa false
set_option linter.unusedSimpArgs false
set_option linter.unusedSimpArgs false
end Go.Vc
namespace Go.Vc
open Go.Proofs
set_option linter.unusedVariables false
set_option linter.unnecessarySimpa false
set_option linter.unusedSimpArgs false
end Go.Vc
namespace Go.Vc
open Go.Proofs
set_option linter.unusedVariables false
set_option linter.unnecessarySimpa false
set_option linter.unusedSimpArgs false
end Go.Vc
namespace Go.Vc
open Go.Proofs
set_option linter.unusedVariables false
set_option linter.unnecessarySimpa false
set_option linter.unusedSimpArgs false
end Go.Vc
namespace Go.Vc
open Go.Proofs
set_option linter.unusedVariables false
set_option linter.unnecessarySimpa false
set_option linter.unusedSimpArgs false
set_option linter.unusedSimpArgs false
def Per {α : Type} (f : Nat → α) (n p : Nat) : Prop := ∀ i, i + p < n → f i = f (i + p)
section
variable {α : Type} {f : Nat → α}
theorem Per.mul {n p : Nat} (h : Per f n p) : ∀ m, Per f n (m * p) := by
  intro m
  induction m with
  | zero => intro i hi; simp
  | succ m ih =>
    intro i hi
    rw [Nat.succ_mul] at hi ⊢
    rw [ih i (by omega), h (i + m * p) (by omega)]
    congr 1
    omega
theorem Per.dvd {n p q : Nat} (h : Per f n p) (hd : p ∣ q) : Per f n q := by
  obtain ⟨m, rfl⟩ := hd
  rw [Nat.mul_comm]
  exact h.mul m
end
theorem isP_per {l : List UInt8} {p : Nat} : isP l p = true ↔ Per (fun i => l[i]?) l.length p := by
  rw [isP_iff]
  constructor
  · intro h i hi
    simp only
    rw [List.getElem?_eq_getElem (by omega), List.getElem?_eq_getElem hi, h i hi]
  · intro h i hi
    have := h i hi
    simp only at this
    rw [List.getElem?_eq_getElem (by omega), List.getElem?_eq_getElem hi] at this
    exact Option.some.inj this
def Abc (l : List UInt8) : Prop := ∀ b ∈ l, b = 97 ∨ b = 98 ∨ b = 99
theorem all_lo {l : List UInt8} (h : l.all okb = true) (i : Nat) (hi : i < l.length) : l[i].toNat < 128 := by
  have := List.all_eq_true.1 h l[i] (List.getElem_mem hi)
  simp [okb] at this
  omega
theorem sub_end' {l : List UInt8} {i : Nat} (hi : i ≤ l.length) : subS (strC l) (i : Int) (l.length : Int) = some (strC (l.drop i)) := by
  rw [subS_L hi (Nat.le_refl _), List.take_length]
theorem bind2 {α β γ : Type} {x : Option α} {f : α → Option β} {g : β → Option γ} {y : β} (h : x.bind f = some y) : (x.bind fun a => (f a).bind g) = g y := by
  cases x with
  | none => cases h
  | some a =>
    simp only [Option.bind_some] at h ⊢
    rw [h]; rfl
theorem Abc.ok {l : List UInt8} (h : Abc l) : l.all okb = true := by
  rw [List.all_eq_true]
  intro b hb
  rcases h b hb with rfl | rfl | rfl <;> decide
theorem Abc.chk {l : List UInt8} (h : Abc l) (h1 : 1 ≤ l.length) (h2 : l.length ≤ 24) : chk8 l = 0 :=
  chk8_zero.2 ⟨by rintro rfl; simp at h1, h2, h.ok⟩
end Go.Vc
namespace Go.Vc
open Go.Proofs
set_option maxRecDepth 100000
end Go.Vc
namespace Go.Vc
open Go.Proofs
set_option linter.unusedVariables false
set_option linter.unnecessarySimpa false
set_option linter.unusedSimpArgs false
end Go.Vc
namespace Go.Vc
open Go.Proofs
set_option linter.unusedVariables false
set_option linter.unnecessarySimpa false
set_option linter.unusedSimpArgs false
set_option linter.unusedSimpArgs false
end Go.Vc
namespace Go.Vc
open Go.Proofs
set_option linter.unusedVariables false
set_option linter.unnecessarySimpa false
set_option linter.unusedSimpArgs false
set_option linter.unusedSimpArgs false
theorem get?_lt {l : List UInt8} {m : List UInt8} (hlen : l.length = m.length) (h : ∀ x, x < l.length → l[x]? = m[x]?) : l = m := by
  refine List.ext_getElem? fun x => ?_
  by_cases hx : x < l.length
  · exact h x hx
  · rw [List.getElem?_eq_none (by omega), List.getElem?_eq_none (by omega)]
theorem rot_per {l : List UInt8} {p : Nat} (h1 : 1 ≤ p) (hp : p ≤ l.length) (hd : l.length % p = 0) : rot l p = l ↔ isP l p = true := by
  rw [isP_per]
  constructor
  · intro h i hi
    have := rot_get hp (show i < l.length by omega)
    rw [h, Nat.mod_eq_of_lt hi] at this
    exact this
  · intro h
    refine get?_lt rot_len fun x hx => ?_
    rw [rot_len] at hx
    rw [rot_get hp hx]
    by_cases hxp : x + p < l.length
    · rw [Nat.mod_eq_of_lt hxp]
      exact (h x hxp).symm
    · rw [Nat.mod_eq_sub_mod (by omega), Nat.mod_eq_of_lt (by omega)]
      have hdd : p ∣ l.length - p := Nat.dvd_sub (Nat.dvd_of_mod_eq_zero hd) (Nat.dvd_refl p)
      have := h.dvd hdd (x + p - l.length) (by omega)
      simp only at this
      rw [this]; congr 1; omega
def trueM (K : List ByteArray) : List (ByteArray × Bool) := K.map fun k => (k, true)
open Classical in
theorem setK_true (k : ByteArray) : ∀ K : List ByteArray, setK k true (trueM K) = trueM (if k ∈ K then K else K ++ [k]) := by
  intro K
  induction K with
  | nil => simp [trueM, setK]
  | cons x K ih =>
    simp only [trueM, List.map_cons, setK]
    by_cases h : x = k
    · subst h; simp
    · rw [if_neg h]
      have : k ∈ x :: K ↔ k ∈ K := by simp [Ne.symm h]
      unfold trueM at ih
      rw [ih]
      by_cases hk : k ∈ K
      · rw [if_pos hk, if_pos (this.2 hk)]; simp
      · rw [if_neg hk, if_neg fun hh => hk (this.1 hh)]; simp
open Classical in
theorem lookK_true (k : ByteArray) : ∀ K : List ByteArray, lookK false k (trueM K) = (decide (k ∈ K), decide (k ∈ K)) := by
  intro K
  induction K with
  | nil => simp [trueM, lookK]
  | cons x K ih =>
    simp only [trueM, List.map_cons, lookK]
    by_cases h : x = k
    · subst h; simp
    · rw [if_neg h]
      unfold trueM at ih
      rw [ih]
      have : (k ∈ x :: K) ↔ k ∈ K := by simp [Ne.symm h]
      simp [this]
theorem trueM_len {K : List ByteArray} : (trueM K).length = K.length := by simp [trueM]
end Go.Vc
namespace Go.Vc
open Go.Proofs
set_option linter.unusedVariables false
set_option linter.unnecessarySimpa false
set_option linter.unusedSimpArgs false
set_option linter.unusedSimpArgs false
def wordN : Nat → Nat → Nat → List UInt8
  | 0, _, _ => []
  | n + 1, k, x => UInt8.ofNat (97 + x % k) :: wordN n k (x / k)
theorem wordN_len : ∀ {n k x : Nat}, (wordN n k x).length = n := by
  intro n
  induction n with
  | zero => intros; rfl
  | succ n ih => intro k x; simp [wordN, ih]
theorem wordN_inj {k : Nat} (hk : 1 ≤ k) (hk3 : k ≤ 100) : ∀ {n x y : Nat}, x < k ^ n → y < k ^ n → wordN n k x = wordN n k y → x = y := by
  intro n
  induction n with
  | zero => intro x y hx hy _; simp at hx hy; omega
  | succ n ih =>
    intro x y hx hy h
    rw [Nat.pow_succ] at hx hy
    simp only [wordN, List.cons.injEq] at h
    obtain ⟨h1, h2⟩ := h
    have e := ih ((Nat.div_lt_iff_lt_mul (by omega)).2 hx) ((Nat.div_lt_iff_lt_mul (by omega)).2 hy) h2
    have m1 := Nat.mod_lt x (show k > 0 by omega)
    have m2 := Nat.mod_lt y (show k > 0 by omega)
    have h3 := congrArg UInt8.toNat h1
    rw [UInt8.toNat_ofNat', UInt8.toNat_ofNat', Nat.mod_eq_of_lt (show 97 + x % k < 2 ^ 8 by omega), Nat.mod_eq_of_lt (show 97 + y % k < 2 ^ 8 by omega)] at h3
    rw [← Nat.div_add_mod x k, ← Nat.div_add_mod y k, e]
    omega
theorem wordN_abc {k : Nat} (hk : 1 ≤ k) (hk3 : k ≤ 3) : ∀ {n x : Nat}, Abc (wordN n k x) := by
  intro n
  induction n with
  | zero => intro x b hb; cases hb
  | succ n ih =>
    intro x b hb
    rcases List.mem_cons.1 hb with rfl | hb
    · have := Nat.mod_lt x (show k > 0 by omega)
      rcases (by omega : x % k = 0 ∨ x % k = 1 ∨ x % k = 2) with h | h | h <;> rw [h] <;> decide
    · exact ih b hb
theorem wordN_end {k : Nat} (hk : 1 ≤ k) : ∀ {n x c : Nat}, x < k ^ n → c < k → wordN (n + 1) k (x + c * k ^ n) = wordN n k x ++ [UInt8.ofNat (97 + c)] := by
  intro n
  induction n with
  | zero =>
    intro x c hx hc
    simp at hx
    subst hx
    simp [wordN, Nat.mod_eq_of_lt hc]
  | succ n ih =>
    intro x c hx hc
    rw [wordN]
    have e1 : (x + c * k ^ (n + 1)) % k = x % k := by
      rw [Nat.pow_succ, ← Nat.mul_assoc, Nat.add_mul_mod_self_right]
    have e2 : (x + c * k ^ (n + 1)) / k = x / k + c * k ^ n := by
      rw [Nat.pow_succ, ← Nat.mul_assoc, Nat.add_mul_div_right _ _ (by omega)]
    rw [e1, e2, ih (by rw [Nat.pow_succ] at hx; exact (Nat.div_lt_iff_lt_mul (by omega)).2 hx) hc]
    rfl
def rNum (n k x : Nat) : Nat := x / k + (x % k) * k ^ (n - 1)
theorem rNum_word {n k x : Nat} (hk : 1 ≤ k) (hn : 1 ≤ n) (hx : x < k ^ n) : rNum n k x < k ^ n ∧ wordN n k (rNum n k x) = rot (wordN n k x) 1 := by
  obtain ⟨m, rfl⟩ : ∃ m, n = m + 1 := ⟨n - 1, by omega⟩
  unfold rNum
  rw [Nat.add_sub_cancel]
  have h1 : x / k < k ^ m := by rw [Nat.pow_succ] at hx; exact (Nat.div_lt_iff_lt_mul (by omega)).2 hx
  have h2 := Nat.mod_lt x (show k > 0 by omega)
  constructor
  · rw [Nat.pow_succ, Nat.mul_comm (k ^ m) k]
    have : (x % k + 1) * k ^ m ≤ k * k ^ m := Nat.mul_le_mul_right _ (by omega)
    rw [Nat.succ_mul] at this
    omega
  · rw [wordN_end hk h1 h2]
    unfold rot
    simp [wordN]
def rIter (n k : Nat) : Nat → Nat → Nat
  | 0, x => x
  | i + 1, x => rIter n k i (rNum n k x)
theorem rIter_word {n k : Nat} (hk : 1 ≤ k) (hn : 1 ≤ n) : ∀ {i x : Nat}, x < k ^ n → i ≤ n → rIter n k i x < k ^ n ∧ wordN n k (rIter n k i x) = rot (wordN n k x) i := by
  intro i
  induction i with
  | zero => intro x hx _; exact ⟨hx, by rw [rot_zero]; rfl⟩
  | succ i ih =>
    intro x hx hi
    obtain ⟨h1, h2⟩ := rNum_word hk hn hx
    obtain ⟨h3, h4⟩ := ih h1 (by omega)
    refine ⟨h3, ?_⟩
    rw [rIter, h4, h2]
    have hne : wordN n k x ≠ [] := by
      intro h
      have := congrArg List.length h
      rw [wordN_len] at this; simp at this; omega
    rw [rot_rot hne (by rw [wordN_len]; omega) (by rw [wordN_len]; omega), wordN_len]
    by_cases he : 1 + i = n
    · rw [he, Nat.mod_self, rot_zero, show i + 1 = (wordN n k x).length by rw [wordN_len]; omega, rot_full]
    · rw [Nat.mod_eq_of_lt (by omega), Nat.add_comm]
theorem find_congr {α : Type} {p q : α → Bool} : ∀ {L : List α}, (∀ x ∈ L, p x = q x) → L.find? p = L.find? q := by
  intro L
  induction L with
  | nil => intro _; rfl
  | cons x L ih =>
    intro h
    rw [List.find?_cons, List.find?_cons, h x (by simp), ih fun y hy => h y (by simp [hy])]
def newX (n k x : Nat) : Bool := (List.range (n + 1)).all fun i => decide (x ≤ rIter n k i x)
def rootX (n k x : Nat) : Nat := ((List.range' 1 n).find? fun d => decide (n % d = 0) && decide (rIter n k d x = x)).getD n
theorem word_ne {n k x : Nat} (hn : 1 ≤ n) : wordN n k x ≠ [] := by
  intro h
  have := congrArg List.length h
  rw [wordN_len] at this; simp at this; omega
theorem newX_iff {n k x : Nat} (hk : 1 ≤ k) (hk3 : k ≤ 3) (hn : 1 ≤ n) (hx : x < k ^ n) : newX n k x = true ↔ ∀ y, y < x → fstN (wordN n k y) ≠ fstN (wordN n k x) := by
  unfold newX
  rw [List.all_eq_true]
  constructor
  · intro h y hy he
    obtain ⟨i, hi, e⟩ := fstN_eq.1 he.symm
    rw [wordN_len] at hi
    obtain ⟨h1, h2⟩ := rIter_word (i := i) hk hn hx hi
    have hyi : y = rIter n k i x := wordN_inj hk (by omega) (by omega) h1 (by rw [e, h2])
    have := of_decide_eq_true (h i (List.mem_range.2 (by omega)))
    omega
  · intro h i hi
    have hi := List.mem_range.1 hi
    refine decide_eq_true ?_
    obtain ⟨h1, h2⟩ := rIter_word (i := i) hk hn hx (by omega)
    by_cases hlt : x ≤ rIter n k i x
    · exact hlt
    · exact absurd (fstN_eq.2 (Turned.symm ⟨i, by rw [wordN_len]; omega, h2⟩)) (h _ (by omega))
theorem rootX_eq {n k x : Nat} (hk : 1 ≤ k) (hk3 : k ≤ 3) (hn : 1 ≤ n) (hx : x < k ^ n) : rootN (wordN n k x) = rootX n k x := by
  unfold rootN rootX
  rw [wordN_len]
  congr 1
  have : ∀ d ∈ List.range' 1 n, (decide (n % d = 0) && isP (wordN n k x) d) = (decide (n % d = 0) && decide (rIter n k d x = x)) := by
    intro d hd
    rw [List.mem_range'_1] at hd
    by_cases h : n % d = 0
    · rw [decide_eq_true h, Bool.true_and, Bool.true_and]
      obtain ⟨h1, h2⟩ := rIter_word (i := d) hk hn hx (by omega)
      have key := rot_per (l := wordN n k x) hd.1 (by rw [wordN_len]; omega) (by rw [wordN_len]; exact h)
      by_cases he : rIter n k d x = x
      · rw [decide_eq_true he]
        refine key.1 ?_
        rw [← h2, he]
      · rw [decide_eq_false he, Bool.eq_false_iff]
        intro hp
        have := key.2 hp
        rw [← h2] at this
        exact he (wordN_inj hk (by omega) h1 hx this)
    · rw [decide_eq_false h]; rfl
  exact find_congr this
theorem W_natc' {q : Nat} (h : q ≤ 1000000) : W (q : Int) = (q : Int) := W_of (by omega) (by omega)
theorem word_loop {a0 : A2u8N} {n k : Nat} {v5 v7 v8 : Int} {b : List (ByteArray × Bool)} {k3 : ByteArray → Option Bool} (hn : W ((1 : Int) + Int.tmod a0.e0 7) = (n : Int)) (hk : W ((1 : Int) + Int.tmod a0.e1 3) = (k : Int)) (hk1 : 1 ≤ k) (hk3 : k ≤ 3) (hn7 : n ≤ 7) :
    ∀ (m y : Nat) (out : List UInt8), out.length ≤ n → n - out.length < m → y ≤ 100000 → f12_14 a0 v5 v7 v8 b k3 m (strC out) (y : Int) = k3 (strC (out ++ wordN (n - out.length) k y)) := by
  intro m
  induction m with
  | zero => intro y out _ h; omega
  | succ m ih =>
    intro y out ho hm hy
    unfold f12_14 f12_14b
    rw [hn, hk]
    by_cases h : out.length < n
    · have hc : chk (decide ((k : Int) ≠ 0)) = some () := by rw [decide_eq_true (by omega)]; rfl
      have ht : Int.tmod (y : Int) (k : Int) = ((y % k : Nat) : Int) := rfl
      have hd : Int.tdiv (y : Int) (k : Int) = ((y / k : Nat) : Int) := rfl
      have hlt := Nat.mod_lt y (show k > 0 by omega)
      have hle := Nat.div_le_self y k
      simp only [strC_size, show (out.length : Int) < (n : Int) by omega, decide_true, cond_true, hc, Option.bind_some, ht, hd]
      have e : ((subS (strC [97, 98, 99]) ((y % k : Nat) : Int) ((strC [97, 98, 99]).size : Int)).bind fun x => subS x 0 1) = some (strC [UInt8.ofNat (97 + y % k)]) := by
        rcases (by omega : y % k = 0 ∨ y % k = 1 ∨ y % k = 2) with h | h | h <;> rw [h] <;> rfl
      simp only [strC_size] at e
      rw [bind2 e, addS_L (by simp; omega), Option.bind_some, W_natc' (q := y / k) (by omega)]
      rw [ih (y / k) (out ++ [UInt8.ofNat (97 + y % k)]) (by simp; omega) (by simp; omega) (by omega)]
      congr 2
      obtain ⟨q, hq⟩ : ∃ q, n - out.length = q + 1 := ⟨n - out.length - 1, by omega⟩
      rw [hq, wordN, List.length_append, List.length_singleton, show n - (out.length + 1) = q by omega]
      simp
    · have : out.length = n := by omega
      simp only [strC_size, this, Int.lt_irrefl, decide_false, cond_false, Nat.sub_self, wordN, List.append_nil]
theorem least_loop {a0 : A2u8N} {l : List UInt8} {v5 v7 v8 : Int} {b : List (ByteArray × Bool)} {k2 : ByteArray → Option Bool} (hl : l.length ≤ 24) (ha : Abc l) :
    ∀ (m i : Nat) (o : List UInt8), i ≤ l.length → l.length - i < m → f12_19 a0 v5 v7 v8 b (strC l) k2 m (strC o) i = k2 (strC (leastOf ((List.range' i (l.length - i)).map (rot l)) o)) := by
  intro m
  induction m with
  | zero => intro i o _ h; omega
  | succ m ih =>
    intro i o hi hm
    unfold f12_19 f12_19b
    by_cases h : i < l.length
    · have hlo : l[i].toNat < 128 := all_lo ha.ok i h
      simp only [strC_size, h, decide_true, cond_true, Option.bind_some]
      rw [rune_lo h hlo, sub_end' (by omega), sub_start (by omega)]
      simp only [Option.bind_some]
      rw [addS_rot (by omega)]
      simp only [Option.bind_some, minS, strLt_L, decide_eq_true_eq]
      have e : (if rot l i < o then strC (rot l i) else strC o) = strC (if rot l i < o then rot l i else o) := by split <;> rfl
      rw [e, ih (i + 1) _ (by omega) (by omega), show l.length - i = (l.length - (i + 1)) + 1 by omega, List.range'_succ, List.map_cons]
      rfl
    · have : i = l.length := by omega
      subst this
      simp only [strC_size, Nat.lt_irrefl, decide_false, cond_false, Nat.sub_self]
      rfl
def ringK (n k : Nat) : Nat → List ByteArray × Nat
  | 0 => ([], 0)
  | x + 1 => if newX n k x = true then ((ringK n k x).1 ++ [strC (fstN (wordN n k x))], (ringK n k x).2 + rootX n k x) else ringK n k x
theorem ringK_mem {n k : Nat} (hk : 1 ≤ k) (hk3 : k ≤ 3) (hn : 1 ≤ n) : ∀ {x : Nat}, x ≤ k ^ n → ∀ s, s ∈ (ringK n k x).1 ↔ ∃ y, y < x ∧ s = strC (fstN (wordN n k y)) := by
  intro x
  induction x with
  | zero => intro _ s; simp [ringK]
  | succ x ih =>
    intro hx s
    have ih := ih (by omega) s
    have hnew := newX_iff (n := n) (k := k) (x := x) hk hk3 hn (by omega)
    rw [ringK]
    by_cases h : newX n k x = true
    · rw [if_pos h]
      simp only [List.mem_append, List.mem_singleton, ih]
      constructor
      · rintro (⟨y, h1, h2⟩ | h2)
        · exact ⟨y, by omega, h2⟩
        · exact ⟨x, by omega, h2⟩
      · rintro ⟨y, h1, h2⟩
        by_cases hy : y = x
        · subst hy; exact .inr h2
        · exact .inl ⟨y, by omega, h2⟩
    · rw [if_neg h, ih]
      constructor
      · rintro ⟨y, h1, h2⟩; exact ⟨y, by omega, h2⟩
      · rintro ⟨y, h1, h2⟩
        by_cases hy : y = x
        · subst hy
          by_cases hh : ∃ z, z < y ∧ fstN (wordN n k z) = fstN (wordN n k y)
          · obtain ⟨z, z1, z2⟩ := hh
            exact ⟨z, z1, by rw [z2]; exact h2⟩
          · exact absurd (hnew.2 fun z hz he => hh ⟨z, hz, he⟩) h
        · exact ⟨y, by omega, h2⟩
theorem rootX_le {n k x : Nat} (hk : 1 ≤ k) (hk3 : k ≤ 3) (hn : 1 ≤ n) (hx : x < k ^ n) : rootX n k x ≤ n := by
  rw [← rootX_eq hk hk3 hn hx]
  have := (rootN_spec (word_ne (n := n) (k := k) (x := x) hn)).2.1
  rwa [wordN_len] at this
theorem ringK_sum {n k : Nat} (hk : 1 ≤ k) (hk3 : k ≤ 3) (hn : 1 ≤ n) : ∀ {x : Nat}, x ≤ k ^ n → (ringK n k x).2 ≤ x * n := by
  intro x
  induction x with
  | zero => intro _; simp [ringK]
  | succ x ih =>
    intro hx
    have h1 := ih (by omega)
    have h2 := rootX_le (x := x) hk hk3 hn (by omega)
    rw [ringK, Nat.succ_mul]
    split
    · simp only; omega
    · omega
open Classical in
theorem ring_loop {a0 : A2u8N} {N n k : Nat} {k0 : Int → List (ByteArray × Bool) → Option Bool} (hn : W ((1 : Int) + Int.tmod a0.e0 7) = (n : Int)) (hk : W ((1 : Int) + Int.tmod a0.e1 3) = (k : Int)) (hk1 : 1 ≤ k) (hk3 : k ≤ 3) (hn1 : 1 ≤ n) (hn7 : n ≤ 7) (hN : 60 ≤ N) (hc : k ^ n ≤ 10000) :
    ∀ (m x : Nat), x ≤ k ^ n → k ^ n - x < m → f12_10 a0 N ((k ^ n : Nat) : Int) k0 m ((ringK n k x).2 : Int) (x : Int) (trueM (ringK n k x).1) = k0 ((ringK n k (k ^ n)).2 : Int) (trueM (ringK n k (k ^ n)).1) := by
  intro m
  induction m with
  | zero => intro x _ h; omega
  | succ m ih =>
    intro x hx hm
    unfold f12_10 f12_10b
    by_cases h : x < k ^ n
    · simp only [show (x : Int) < ((k ^ n : Nat) : Int) by omega, decide_true, cond_true, joinK]
      rw [emptyS_eq, word_loop hn hk hk1 hk3 hn7 N x [] (by simp) (by simp; omega) (by omega)]
      simp only [List.length_nil, Nat.sub_zero, List.nil_append]
      unfold f12_c17
      simp only [joinK]
      have habc : Abc (wordN n k x) := wordN_abc hk1 hk3
      have hlen : (wordN n k x).length = n := wordN_len
      rw [least_loop (by omega) habc N 0 _ (by omega) (by omega), Nat.sub_zero, ← List.range_eq_range']
      rw [show leastOf ((List.range (wordN n k x).length).map (rot (wordN n k x))) (wordN n k x) = fstN (wordN n k x) from rfl]
      unfold f12_c22
      rw [lookK_true]
      simp only [Option.bind_some]
      have hmem := ringK_mem (n := n) (k := k) (x := x) hk1 hk3 hn1 (by omega) (strC (fstN (wordN n k x)))
      have hnew := newX_iff (n := n) (k := k) (x := x) hk1 hk3 hn1 h
      have hsum := ringK_sum (n := n) (k := k) (x := x) hk1 hk3 hn1 (by omega)
      have hroot := rootX_le (n := n) (k := k) (x := x) hk1 hk3 hn1 h
      have hx7 : x * n ≤ 10000 * 7 := Nat.mul_le_mul (by omega) hn7
      by_cases hin : strC (fstN (wordN n k x)) ∈ (ringK n k x).1
      · rw [decide_eq_true hin, cond_true]
        unfold f12_c11
        rw [W_nat (by omega)]
        have hnot : ¬ newX n k x = true := by
          obtain ⟨y, y1, y2⟩ := hmem.1 hin
          exact fun hh => hnew.1 hh y y1 (strC_inj.1 y2).symm
        have e : ringK n k (x + 1) = ringK n k x := by rw [ringK, if_neg hnot]
        rw [← ih (x + 1) (by omega) (by omega), e]
      · rw [decide_eq_false hin, cond_false, setK_true, if_neg hin, f29_eq (by omega), f18_eq (by omega) (by omega)]
        have h0 := habc.chk (by omega) (by omega)
        simp only [h0, if_true, Option.bind_some, not_true, decide_false, cond_false, strC_size]
        have hyes : newX n k x = true := by
          rw [hnew]
          intro y y1 y2
          exact hin (hmem.2 ⟨y, y1, by rw [y2]⟩)
        unfold f12_c11
        have hrl : ((wordN n k x).take (rootN (wordN n k x))).length = rootX n k x := by
          rw [List.length_take, rootX_eq hk1 hk3 hn1 h, hlen]; omega
        rw [hrl, show ((ringK n k x).2 : Int) + (rootX n k x : Int) = (((ringK n k x).2 + rootX n k x : Nat) : Int) by omega, W_of (by omega) (by omega), W_nat (by omega)]
        have e : ringK n k (x + 1) = ((ringK n k x).1 ++ [strC (fstN (wordN n k x))], (ringK n k x).2 + rootX n k x) := by rw [ringK, if_pos hyes]
        rw [← ih (x + 1) (by omega) (by omega), e]
    · have : x = k ^ n := by omega
      subst this
      simp only [Int.lt_irrefl, decide_false, cond_false]
theorem pow_loop {a0 : A2u8N} {n k : Nat} {k4 : Int → Option Bool} (hn : W ((1 : Int) + Int.tmod a0.e0 7) = (n : Int)) (hk : W ((1 : Int) + Int.tmod a0.e1 3) = (k : Int)) (hk1 : 1 ≤ k) (hn7 : n ≤ 7) (hc : k ^ n ≤ 10000) :
    ∀ (m i : Nat), i ≤ n → n - i < m → f12_4 a0 k4 m ((k ^ i : Nat) : Int) (i : Int) = k4 ((k ^ n : Nat) : Int) := by
  intro m
  induction m with
  | zero => intro x _ h; omega
  | succ m ih =>
    intro i hi hm
    unfold f12_4 f12_4b
    rw [hn, hk]
    by_cases h : i < n
    · simp only [show (i : Int) < (n : Int) by omega, decide_true, cond_true]
      have hp : k ^ (i + 1) ≤ k ^ n := Nat.pow_le_pow_right hk1 (by omega)
      have e : ((k ^ i : Nat) : Int) * (k : Int) = ((k ^ (i + 1) : Nat) : Int) := by rw [Nat.pow_succ, Int.natCast_mul]
      rw [e, W_of (by omega) (by omega), W_nat (by omega)]
      exact ih (i + 1) (by omega) (by omega)
    · have : i = n := by omega
      subst this
      simp only [Int.lt_irrefl, decide_false, cond_false]
def cntX (n k : Nat) : Nat → Nat × Nat
  | 0 => (0, 0)
  | x + 1 => match cntX n k x with
    | (a, b) => bif newX n k x then (a + 1, b + rootX n k x) else (a, b)
theorem cntX_eq {n k : Nat} : ∀ x, cntX n k x = ((ringK n k x).1.length, (ringK n k x).2) := by
  intro x
  induction x with
  | zero => rfl
  | succ x ih =>
    rw [cntX, ih, ringK]
    cases h : newX n k x with
    | true => simp
    | false => simp
end Go.Vc
namespace Go.Vc
open Go.Proofs
set_option linter.unusedVariables false
set_option linter.unnecessarySimpa false
set_option linter.unusedSimpArgs false
set_option linter.unusedSimpArgs false
set_option maxRecDepth 1000000
theorem t15_3000 : f15 3000 = some true := by decide +kernel
theorem rings_count : ∀ a : Fin 7, ∀ b : Fin 3, f33 3000 ((a.val + 1 : Nat) : Int) ((b.val + 1 : Nat) : Int) = some (((cntX (a.val + 1) (b.val + 1) ((b.val + 1) ^ (a.val + 1))).1 : Int), 0) ∧ (cntX (a.val + 1) (b.val + 1) ((b.val + 1) ^ (a.val + 1))).2 = (b.val + 1) ^ (a.val + 1) := by decide +kernel
theorem pow_small : ∀ a : Fin 7, ∀ b : Fin 3, (b.val + 1) ^ (a.val + 1) ≤ 2187 := by decide +kernel
theorem f12_true (a0 : A2u8N) (h0 : 0 ≤ a0.e0 ∧ a0.e0 ≤ 255) (h1 : 0 ≤ a0.e1 ∧ a0.e1 ≤ 255) : f12 3000 a0 = some true := by
  obtain ⟨u, hu⟩ : ∃ u : Nat, a0.e0 = u := ⟨a0.e0.toNat, by omega⟩
  obtain ⟨v, hv⟩ : ∃ v : Nat, a0.e1 = v := ⟨a0.e1.toNat, by omega⟩
  have hn : W ((1 : Int) + Int.tmod a0.e0 7) = ((u % 7 + 1 : Nat) : Int) := by
    rw [hu, show Int.tmod (u : Int) 7 = ((u % 7 : Nat) : Int) from rfl, W_of (by omega) (by omega)]; omega
  have hk : W ((1 : Int) + Int.tmod a0.e1 3) = ((v % 3 + 1 : Nat) : Int) := by
    rw [hv, show Int.tmod (v : Int) 3 = ((v % 3 : Nat) : Int) from rfl, W_of (by omega) (by omega)]; omega
  have hr := rings_count ⟨u % 7, by omega⟩ ⟨v % 3, by omega⟩
  have hp := pow_small ⟨u % 7, by omega⟩ ⟨v % 3, by omega⟩
  simp only at hr hp
  generalize hN : u % 7 + 1 = n at *
  generalize hK : v % 3 + 1 = k at *
  have n1 : 1 ≤ n := by omega
  have n7 : n ≤ 7 := by omega
  have k1 : 1 ≤ k := by omega
  have k3 : k ≤ 3 := by omega
  unfold f12
  simp only [joinK]
  have e1 := pow_loop (a0 := a0) (k4 := f12_c7 a0 3000) hn hk k1 n7 (by omega) 3000 0 (by omega) (by omega)
  rw [Nat.pow_zero] at e1
  refine Eq.trans e1 ?_
  unfold f12_c7
  simp only [joinK]
  have e2 := ring_loop (a0 := a0) (N := 3000) (k0 := f12_c29 a0 3000 ((k ^ n : Nat) : Int)) hn hk k1 k3 n1 n7 (by omega) (by omega) 3000 0 (by omega) (by omega)
  refine Eq.trans e2 ?_
  unfold f12_c29
  have hc := cntX_eq (n := n) (k := k) (k ^ n)
  rw [hn, hk]
  obtain ⟨r1, r2⟩ := hr
  rw [hc] at r1 r2
  simp only at r1 r2
  have hlen : (ringK n k (k ^ n)).1.length ≤ k ^ n := by
    have : ∀ x, (ringK n k x).1.length ≤ x := by
      intro x
      induction x with
      | zero => simp [ringK]
      | succ x ih =>
        rw [ringK]
        split
        · simp; exact ih
        · omega
    exact this _
  have hlm : lenM (trueM (ringK n k (k ^ n)).1) = some (ringK n k (k ^ n)).1.length := by
    unfold lenM
    rw [trueM_len, if_pos (by simp [maxLen]; omega)]
  rw [r1, hlm]
  simp only [Option.bind_some, decide_true, cond_true, r2, t15_3000]
end Go.Vc
namespace Go.Vc
set_option linter.unusedVariables false
set_option linter.unnecessarySimpa false
set_option linter.unusedSimpArgs false
set_option linter.unusedSimpArgs false
abbrev tB : Ty := .int .u8
def u8In (n : Int) : Prop := 0 ≤ n ∧ n ≤ 255
theorem tB_of {ds : List D} (h : tB.has ds) : ∃ n, ds = [u8N n] ∧ u8In n := by
  simp only [tB, Ty.has] at h
  obtain ⟨n, rfl, h⟩ := h
  exact ⟨n, rfl, by simpa [IntKind.min, IntKind.max, IntKind.signed, IntKind.bits, u8In] using h⟩
theorem tB_of' {ds : List D} (h : (Ty.int .u8).has ds) : ∃ n, ds = [u8N n] ∧ u8In n := tB_of h
abbrev tA2 : Ty := .comp [tB, tB]
def A2In (x : A2u8N) : Prop := u8In x.e0 ∧ u8In x.e1
theorem A2_ofD {x : D} (h : tA2.hasD x) : ∃ a : A2u8N, x = A2u8N.d a ∧ A2In a := by
  obtain ⟨cs, rfl, h⟩ := h
  rw [Ty.hasL] at h
  obtain ⟨a0, b0, rfl, h0, h⟩ := h
  rw [Ty.hasL] at h
  obtain ⟨a1, b1, rfl, h1, h⟩ := h
  simp only [Ty.hasL] at h
  subst h
  obtain ⟨x0, rfl, p0⟩ := tB_of' h0
  obtain ⟨x1, rfl, p1⟩ := tB_of' h1
  exact ⟨⟨x0, x1⟩, rfl, p0, p1⟩
end Go.Vc

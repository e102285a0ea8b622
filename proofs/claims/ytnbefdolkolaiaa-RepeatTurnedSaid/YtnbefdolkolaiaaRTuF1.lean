/-
  A library for proofs about Go functions by symbolic evaluation, and plain Lean functions that the walked Go functions compute (written by a program of this claim).
-/
import Derived.Test.YtnbefdolkolaiaaW1
import Derived.Test.YtnbefdolkolaiaaW3
import Derived.Test.YtnbefdolkolaiaaW2
import Derived.Test.YtnbefdolkolaiaaVc3
namespace Go.Vc
open Go.Proofs
set_option linter.unusedVariables false
set_option linter.unnecessarySimpa false
set_option linter.unusedSimpArgs false
section
variable {c : Ctx} {p nid : Nat} {a b : Code} {st : St} {K : Ex → St → Prop}
def f41_c9 (out5 : ByteArray) : Option (ByteArray) :=
 bif decide (out5 = emptyS) then (some ((strC [97])))
 else (some (out5))
def Lf41_c9 : Lp (ByteArray) Unit (ByteArray) := lp0 ⟨[5], [], [], []⟩ (fun out5 => [.dat (strN out5)]) (fun _ => []) (fun out5 => f41_c9 out5)
theorem Ef41_c9 {out5} : (Lf41_c9).E out5 = f41_c9 out5 := rfl
def f41_3b (r3 : ByteArray → Int → Option (ByteArray)) (a0 : List Int) (a1 : Int) (k0 : ByteArray → Option (ByteArray)) (out5 : ByteArray) (i6 : Int) : Option (ByteArray) :=
 bif decide (i6 < (List.length a0 : Int)) then (bif decide ((ByteArray.size out5 : Int) < a1) then ((ix a0 i6).bind fun x1 =>
 bif decide ((128 : Int) ≤ x1) then (bif decide ((0 : Int) < (ByteArray.size out5 : Int)) then ((chk (decide ((ByteArray.size out5 : Int) ≠ 0))).bind fun _ =>
 (subS out5 (W ((W ((ByteArray.size out5 : Int) - (1 : Int))) - (Int.tmod x1 (ByteArray.size out5 : Int)))) (ByteArray.size out5 : Int)).bind fun x2 =>
 (subS x2 0 (1 : Int)).bind fun x3 =>
 (addS out5 x3).bind fun x4 =>
 r3 x4 (W (i6 + (1 : Int))))
 else ((subS (strC [97, 98, 99]) (Int.tmod x1 (3 : Int)) (ByteArray.size (strC [97, 98, 99]) : Int)).bind fun x5 =>
 (subS x5 0 (1 : Int)).bind fun x6 =>
 (addS out5 x6).bind fun x7 =>
 r3 x7 (W (i6 + (1 : Int)))))
 else ((subS (strC [97, 98, 99]) (Int.tmod x1 (3 : Int)) (ByteArray.size (strC [97, 98, 99]) : Int)).bind fun x8 =>
 (subS x8 0 (1 : Int)).bind fun x9 =>
 (addS out5 x9).bind fun x10 =>
 r3 x10 (W (i6 + (1 : Int)))))
 else (k0 out5))
 else (k0 out5)
def f41_3 (a0 : List Int) (a1 : Int) (k0 : ByteArray → Option (ByteArray)) : Nat → ByteArray → Int → Option (ByteArray)
  | 0, _, _ => none
  | n + 1, out5, i6 => f41_3b (f41_3 a0 a1 k0 n) a0 a1 k0 out5 i6
def Lf41_3 (a0 : List Int) (a1 : Int) (k0 : ByteArray → Option (ByteArray)) : Lp (Nat × ByteArray × Int) Unit (ByteArray) := lp0 ⟨[0, 1, 5, 6], [], [], []⟩ (fun (_, out5, i6) => [.dat (sl_u8N a0), .dat (iN a1), .dat (strN out5), .dat (iN i6)]) (fun (_, _, _) => []) (fun (n, out5, i6) => f41_3 a0 a1 k0 n out5 i6)
theorem Ef41_3 {a0 a1 k0 n out5 i6} : (Lf41_3 a0 a1 k0).E (n, out5, i6) = f41_3 a0 a1 k0 n out5 i6 := rfl
def f41 (N : Nat) (a0 : List Int) (a1 : Int) : Option (ByteArray) :=
 joinK f41_c9 fun k0 =>
 f41_3 a0 a1 k0 N emptyS (0 : Int)
def G41 (ds : List D) (d : D) : Prop := ∃ (N : Nat) (a0 : List Int) (a1 : Int) (r : ByteArray), ds = [sl_u8N a0, iN a1] ∧ f41 N a0 a1 = some r ∧ d = strN r
theorem G41.lend {N : Nat} {a0 : List Int} {a1 : Int} {ρ : Type} {A : ByteArray → Option ρ} {q : ρ} {ds : List D} {K : D → Prop} (hd : ds = [sl_u8N a0, iN a1]) (h : ∀ r, A r = some q → K (strN r)) (hF : (f41 N a0 a1).bind A = some q) : ∃ d, (G41 ds d ∧ d.flatB = true) ∧ K d := by
  obtain ⟨r, hr, hA⟩ := bind_some hF
  exact ⟨_, ⟨⟨N, a0, a1, r, hd, hr, rfl⟩, rfl⟩, h r hA⟩
set_option maxRecDepth 20000 in
set_option maxHeartbeats 4000000 in
theorem P41 : PureOK Try.prog 41 G41 := by
  refine pure_of_vc (c := mkCtx tyTree []) rfl tyOK (ctx_nil) [[0]] 2 Try.func41 rfl rfl (by decide) (by kernel_rfl) ?_
  rintro ds d ⟨N, a0, a1, r, rfl, hF, rfl⟩ hok
  clear hok
  refine ⟨rfl, ?_⟩
  show vc _ _ _ _ ⟨[(0, .dat (sl_u8N a0)), (1, .dat (iN a1))], []⟩ _
  unfold f41 at hF
  repeat' (first
    | ((with_reducible first | refine q0 _ _ ?_ | refine q1 _ _ _ _ ?_ | refine q2 _ _ _ ?_); clear Q q0 q1 q2)
    | ((with_reducible first | refine seq_op ?hx (fun Q q0 q1 q2 => ?_)); (case hx => exact rfl); conv => whnf)
    | ((with_reducible first | refine seq_off ?hx ?_ | refine seq_off0 ?hx ?_ | refine k_blk_out ?hx ?_ | refine vc_condT ?hx ?_); (case hx => exact rfl))
    | ((with_reducible refine seq_id ?_); (first | ((first | refine seq_opK rfl ?hy (fun Q q0 q1 q2 => ?_) | refine seq_opK0 rfl ?hy (fun Q q0 q1 q2 => ?_)); (case hy => first | assumption | exact notT (by assumption) | exact rfl); conv => whnf) | ((first | refine seq_offK rfl ?hy ?_ | refine seq_offK0 rfl ?hy ?_); (case hy => first | assumption | exact notF (by assumption) | exact rfl)) | (revert hF; (with_reducible first | refine seq_opF ?hx ?_ ?_ | refine seq_opF0 ?hx ?_ ?_); (case hx => exact rfl); (intro hc hF Q q0 q1 q2; conv => whnf); rotate_left; (intro hc hF); rotate_right) | (revert hF; (with_reducible first | refine seq_opN ?hx ?_ ?_ | refine seq_opN0 ?hx ?_ ?_); (case hx => exact rfl); (intro hc hF); rotate_left; (intro hc hF Q q0 q1 q2; conv => whnf); rotate_right)))
    | ((with_reducible refine cond_id ?_); (first | ((refine condKT rfl ?hy ?_); (case hy => first | assumption | exact notT (by assumption) | exact rfl)) | ((refine condKF rfl ?hy ?_); (case hy => first | assumption | exact notF (by assumption) | exact rfl)) | (revert hF; (with_reducible refine condF ?hx ?_ ?_); (case hx => exact rfl); all_goals (intro hc hF))))
    | ((with_reducible refine seq_nil ?_); (first | ((with_reducible refine hR _ ?_); clear R hR) | ((with_reducible refine hL _ ?_); clear L hL)))
    | ((with_reducible first | refine int_step ?_ | refine len_step ?_ | refine idx2 (by assumption) ?_ | refine idx3 (by assumption) ?_); conv => whnf)
    | (with_reducible first | refine vc_block ?_ | refine vc_skip ?_ | refine vc_ret ?_ | refine vc_exit ?_ | refine vc_region (fun R hR => ?_) | refine k_seq_ret ?_ | refine k_seq_exit ?_ | refine k_blk ?_ | refine k_blk_ret ?_ | refine k_blk_here ?_ | refine k_loop_ret ?_ | refine k_loop_exit ?_)
    | ((with_reducible refine vc_seqN [9] ?hx ?_); (case hx => exact rfl))
    | (revert hF; (refine Lp.cut0 Lf41_c9 f41_c9 9 rfl rfl ?_ ?_); (intro hF); rotate_left; (rintro out5 hF; dsimp only [Lf41_c9] at hF; unfold f41_c9 at hF); rotate_right)
    | exact Lp.head Ef41_c9 hF () ⟨_, rfl, rfl, rfl, rfl⟩ rfl
    | (revert hF; (refine Lp.loop Ef41_3 () rfl ⟨_, rfl, rfl, rfl, rfl⟩ rfl (fun _ => rfl) ?_); rintro n ⟨out5, i6⟩ hF; dsimp only [Lf41_3, f41_3] at hF; unfold f41_3b at hF)
    | exact Lp.back Ef41_3 hF () ⟨_, rfl, rfl, rfl, rfl⟩ rfl
    | (revert hF; (refine subS_step ?_); intro x hF; conv => whnf)
    | (revert hF; (refine addS_step ?_); intro x hF; conv => whnf)
    | (revert hF; (with_reducible refine idx1 ?hn ?_); (case hn => first | exact rfl | exact (List.length_map _) | assumption | omega | simp); intro x hx hF; conv => whnf)
    | ((refine row_all ?hn ?_); (case hn => first | exact rfl | (simp; done) | (simp; omega)); conv => whnf)
    | ((with_reducible refine le_step ?hn ?_); (case hn => first | exact rfl | assumption | omega); conv => whnf)
    | ((refine ⟨?hx, ?_⟩); (case hx => exact ⟨rfl, Nat.le_of_ble_eq_true rfl, rfl⟩); conv => whnf)
    | ((with_reducible refine ex_step ?_); conv => whnf)
    | ((with_reducible have hG := chk_fact hF); clear hF; (refine ⟨?hx, ?_⟩); (case hx => (first | exact of_decide_eq_true hG.1 | exact hG.1)); have hF := hG.2; clear hG; conv => whnf)
    | ((with_reducible refine both_T ?hx ?_); (case hx => first | exact rfl | assumption | exact notT (by assumption)); conv => whnf)
    | ((with_reducible refine both_F ?hx ?_); (case hx => first | exact rfl | assumption | exact notF (by assumption)); conv => whnf)
    | (revert hF; (with_reducible refine ite_step ?_ ?_) <;> (intro hc hF; conv => whnf))
    | ((with_reducible refine vc_condF ?hx ?_); (case hx => exact rfl))
    | (show retD _ _ _ _ _ _; conv => whnf)
    | ((refine ⟨?hx, trivial⟩); (case hx => (cases hF; exact rfl)))
    | ((refine ⟨?hx, ?_⟩); (case hx => decide); conv => whnf)
    | with_reducible refine k_seq ?_
    | (have hF : (none : Option _) = some _ := hF; cases hF))
end
end Go.Vc
namespace Go.Vc
open Go.Proofs
set_option linter.unusedVariables false
set_option linter.unnecessarySimpa false
set_option linter.unusedSimpArgs false
section
variable {c : Ctx} {p nid : Nat} {a b : Code} {st : St} {K : Ex → St → Prop}
def f11_c38 (N : Nat) (x12 : (List Int) × Int) (x13 : (List Int) × Int) : Option (Bool) :=
 bif decide (x12.2 = (0 : Int)) then (bif decide (x13.2 = (0 : Int)) then ((f15 N ).bind fun x14 =>
 some (x14))
 else (some (false)))
 else (some (false))
def Lf11_c38 (N : Nat) (x12 : (List Int) × Int) (x13 : (List Int) × Int) : Lp (Unit) Unit (Bool) := lp0 ⟨[13, 15], [], [], []⟩ (fun _ => [.dat (iN x12.2), .dat (iN x13.2)]) (fun _ => []) (fun _ => f11_c38 N x12 x13)
theorem Ef11_c38 {N x12 x13} : (Lf11_c38 N x12 x13).E () = f11_c38 N x12 x13 := rfl
def f11_30b (r30 : Int → Option (Bool)) (N : Nat) (v9 : ByteArray) (v10 : ByteArray) (x8 : ByteArray × Int × Int) (x12 : (List Int) × Int) (x13 : (List Int) × Int) (k0 : Option (Bool)) (v183 : Int) : Option (Bool) :=
 bif decide (v183 < (List.length [v9, v10] : Int)) then ((ix [v9, v10] v183).bind fun x15 =>
 (f16 N x15).bind fun x16 =>
 (f20 N x15).bind fun x17 =>
 (f18 N x15).bind fun x18 =>
 bif decide (¬ x16.2 = (0 : Int)) then (some (false))
 else (bif decide (¬ x17.2 = (0 : Int)) then (some (false))
 else (bif decide (¬ x18.2.2 = (0 : Int)) then (some (false))
 else (bif decide (¬ x18.2.1 = x8.2.1) then (some (false))
 else ((f22 N x12.1 x16.1).bind fun x19 =>
 bif !x19 then (some (false))
 else ((f22 N x13.1 x17.1).bind fun x20 =>
 bif !x20 then (some (false))
 else (r30 (W (v183 + (1 : Int))))))))))
 else k0
def f11_30 (N : Nat) (v9 : ByteArray) (v10 : ByteArray) (x8 : ByteArray × Int × Int) (x12 : (List Int) × Int) (x13 : (List Int) × Int) (k0 : Option (Bool)) : Nat → Int → Option (Bool)
  | 0, _ => none
  | n + 1, v183 => f11_30b (f11_30 N v9 v10 x8 x12 x13 k0 n) N v9 v10 x8 x12 x13 k0 v183
def Lf11_30 (N : Nat) (v9 : ByteArray) (v10 : ByteArray) (x8 : ByteArray × Int × Int) (x12 : (List Int) × Int) (x13 : (List Int) × Int) (k0 : Option (Bool)) : Lp (Nat × Int) (Nat) (Bool) := ⟨⟨[13, 15, 19, 27, 28, 181, 182, 183], [2902], [], []⟩, fun (_, v183) => [.dat (iN x12.2), .dat (iN x13.2), .dat (iN x8.2.1), .dat (sl_iN x12.1), .dat (sl_iN x13.1), .rs 2902 (List.length [v9, v10]), .dat (iN (List.length [v9, v10] : Int)), .dat (iN v183)], fun (_, _) => [.row 9 1 (List.map strN [v9, v10])], fun (n, v183) => f11_30 N v9 v10 x8 x12 x13 k0 n v183, fun (_, v183) m0 => [.dat (iN x12.2), .dat (iN x13.2), .dat (iN x8.2.1), .dat (sl_iN x12.1), .dat (sl_iN x13.1), .rs 2902 m0, .dat (iN (List.length [v9, v10] : Int)), .dat (iN v183)], fun (_, _) _ => [.row 9 1 (List.map strN [v9, v10])], fun (_, _) => List.length [v9, v10], fun _ => rfl, fun _ => rfl⟩
theorem Ef11_30 {N v9 v10 x8 x12 x13 k0 n v183} : (Lf11_30 N v9 v10 x8 x12 x13 k0).E (n, v183) = f11_30 N v9 v10 x8 x12 x13 k0 n v183 := rfl
def f11_c25 (N : Nat) (x1 : ByteArray) (v9 : ByteArray) (v10 : ByteArray) (x5 : ByteArray × Int) (x8 : ByteArray × Int × Int) (x9 : ByteArray × Int × Int) (b1700 : List (ByteArray × Bool)) : Option (Bool) :=
 (some (lookK false x5.1 b1700)).bind fun x10 =>
 bif !x10.1 then (some (false))
 else ((lenM b1700).bind fun x11 =>
 bif decide (¬ (x11 : Int) = (ByteArray.size x9.1 : Int)) then (some (false))
 else ((f16 N x1).bind fun x12 =>
 (f20 N x1).bind fun x13 =>
 joinK (f11_c38 N x12 x13) fun k0 =>
 f11_30 N v9 v10 x8 x12 x13 k0 N (0 : Int)))
def Lf11_c25 (N : Nat) (x1 : ByteArray) (v9 : ByteArray) (v10 : ByteArray) (x5 : ByteArray × Int) (x8 : ByteArray × Int × Int) (x9 : ByteArray × Int × Int) : Lp ((List (ByteArray × Bool))) Unit (Bool) := lp0 ⟨[5, 9, 10, 12, 19, 21, 24], [1700], [], []⟩ (fun _ => [.dat (strN x1), .dat (strN v9), .dat (strN v10), .dat (strN x5.1), .dat (iN x8.2.1), .dat (strN x9.1), .mp 1700]) (fun b1700 => [.mp (encM strN bN b1700)]) (fun b1700 => f11_c25 N x1 v9 v10 x5 x8 x9 b1700)
theorem Ef11_c25 {N x1 v9 v10 x5 x8 x9 b1700} : (Lf11_c25 N x1 v9 v10 x5 x8 x9).E b1700 = f11_c25 N x1 v9 v10 x5 x8 x9 b1700 := rfl
def f11_19b (r19 : (List (ByteArray × Bool)) → Nat → Option (Bool)) (x1 : ByteArray) (v9 : ByteArray) (v10 : ByteArray) (x5 : ByteArray × Int) (x8 : ByteArray × Int × Int) (x9 : ByteArray × Int × Int) (k1 : (List (ByteArray × Bool)) → Option (Bool)) (b1700 : List (ByteArray × Bool)) (p1801 : Nat) : Option (Bool) :=
 bif decide (p1801 < ByteArray.size x1) then ((some (runeAt x1 p1801)).bind fun x21 =>
 (subS x1 (((p1801 : Nat) : Int) : Int) (ByteArray.size x1 : Int)).bind fun x22 =>
 (subS x1 0 (((p1801 : Nat) : Int) : Int)).bind fun x23 =>
 (addS x22 x23).bind fun x24 =>
 bif strLt x24 x5.1 then (some (false))
 else ((some (setK x24 true b1700)).bind fun x25 =>
 r19 x25 x21.2))
 else (k1 b1700)
def f11_19 (x1 : ByteArray) (v9 : ByteArray) (v10 : ByteArray) (x5 : ByteArray × Int) (x8 : ByteArray × Int × Int) (x9 : ByteArray × Int × Int) (k1 : (List (ByteArray × Bool)) → Option (Bool)) : Nat → (List (ByteArray × Bool)) → Nat → Option (Bool)
  | 0, _, _ => none
  | n + 1, b1700, p1801 => f11_19b (f11_19 x1 v9 v10 x5 x8 x9 k1 n) x1 v9 v10 x5 x8 x9 k1 b1700 p1801
def Lf11_19 (x1 : ByteArray) (v9 : ByteArray) (v10 : ByteArray) (x5 : ByteArray × Int) (x8 : ByteArray × Int × Int) (x9 : ByteArray × Int × Int) (k1 : (List (ByteArray × Bool)) → Option (Bool)) : Lp (Nat × (List (ByteArray × Bool)) × Nat) Unit (Bool) := lp0 ⟨[5, 9, 10, 12, 19, 21, 24, 142], [1700, 1801], [], []⟩ (fun (_, _, _) => [.dat (strN x1), .dat (strN v9), .dat (strN v10), .dat (strN x5.1), .dat (iN x8.2.1), .dat (strN x9.1), .mp 1700, .ptr 1801 0]) (fun (_, b1700, p1801) => [.mp (encM strN bN b1700), .sit x1 p1801]) (fun (n, b1700, p1801) => f11_19 x1 v9 v10 x5 x8 x9 k1 n b1700 p1801)
theorem Ef11_19 {x1 v9 v10 x5 x8 x9 k1 n b1700 p1801} : (Lf11_19 x1 v9 v10 x5 x8 x9 k1).E (n, b1700, p1801) = f11_19 x1 v9 v10 x5 x8 x9 k1 n b1700 p1801 := rfl
def f11_c10 (N : Nat) (x1 : ByteArray) (x4 : ByteArray) (v9 : ByteArray) (v10 : ByteArray) : Option (Bool) :=
 (f29 N x1).bind fun x5 =>
 (f29 N x4).bind fun x6 =>
 (f31 N x1 x4).bind fun x7 =>
 (f18 N x1).bind fun x8 =>
 (f18 N x4).bind fun x9 =>
 bif decide (¬ x5.2 = (0 : Int)) then (some (false))
 else (bif decide (¬ x6.2 = (0 : Int)) then (some (false))
 else (bif decide (¬ x7.2 = (0 : Int)) then (some (false))
 else (bif decide (¬ x8.2.2 = (0 : Int)) then (some (false))
 else (bif decide (¬ x9.2.2 = (0 : Int)) then (some (false))
 else (bif decide (¬ x5.1 = x6.1) then (some (false))
 else (bif !x7.1 then (some (false))
 else (bif decide (¬ x8.2.1 = x9.2.1) then (some (false))
 else (bif decide (¬ (W ((ByteArray.size x9.1 : Int) * x9.2.1)) = (ByteArray.size x1 : Int)) then (some (false))
 else (joinK (f11_c25 N x1 v9 v10 x5 x8 x9) fun k1 =>
 f11_19 x1 v9 v10 x5 x8 x9 k1 N [] 0)))))))))
def Lf11_c10 (N : Nat) (x1 : ByteArray) (x4 : ByteArray) : Lp (ByteArray × ByteArray) Unit (Bool) := lp0 ⟨[5, 6, 8, 9, 10], [], [], []⟩ (fun (v9, v10) => [.dat (strN x1), .dat (iN (ByteArray.size x1 : Int)), .dat (strN x4), .dat (strN v9), .dat (strN v10)]) (fun (_, _) => []) (fun (v9, v10) => f11_c10 N x1 x4 v9 v10)
theorem Ef11_c10 {N x1 x4 v9 v10} : (Lf11_c10 N x1 x4).E (v9, v10) = f11_c10 N x1 x4 v9 v10 := rfl
def f11_6b (r6 : ByteArray → ByteArray → Nat → Option (Bool)) (x1 : ByteArray) (x4 : ByteArray) (k2 : ByteArray → ByteArray → Option (Bool)) (v9 : ByteArray) (v10 : ByteArray) (p501 : Nat) : Option (Bool) :=
 bif decide (p501 < ByteArray.size x1) then ((some (runeAt x1 p501)).bind fun x26 =>
 (subS x1 (((p501 : Nat) : Int) : Int) (ByteArray.size x1 : Int)).bind fun x27 =>
 (subS x27 0 (1 : Int)).bind fun x28 =>
 (addS x28 v9).bind fun x29 =>
 (idxS x1 (((p501 : Nat) : Int) : Int)).bind fun x30 =>
 (subS (strC [122, 107, 99]) (Wk .u8 (x30 - (97 : Int))) (ByteArray.size (strC [122, 107, 99]) : Int)).bind fun x31 =>
 (subS x31 0 (1 : Int)).bind fun x32 =>
 (addS v10 x32).bind fun x33 =>
 r6 x29 x33 x26.2)
 else (k2 v9 v10)
def f11_6 (x1 : ByteArray) (x4 : ByteArray) (k2 : ByteArray → ByteArray → Option (Bool)) : Nat → ByteArray → ByteArray → Nat → Option (Bool)
  | 0, _, _, _ => none
  | n + 1, v9, v10, p501 => f11_6b (f11_6 x1 x4 k2 n) x1 x4 k2 v9 v10 p501
def Lf11_6 (x1 : ByteArray) (x4 : ByteArray) (k2 : ByteArray → ByteArray → Option (Bool)) : Lp (Nat × ByteArray × ByteArray × Nat) Unit (Bool) := lp0 ⟨[5, 6, 8, 9, 10, 54], [501], [], []⟩ (fun (_, v9, v10, _) => [.dat (strN x1), .dat (iN (ByteArray.size x1 : Int)), .dat (strN x4), .dat (strN v9), .dat (strN v10), .ptr 501 0]) (fun (_, _, _, p501) => [.sit x1 p501]) (fun (n, v9, v10, p501) => f11_6 x1 x4 k2 n v9 v10 p501)
theorem Ef11_6 {x1 x4 k2 n v9 v10 p501} : (Lf11_6 x1 x4 k2).E (n, v9, v10, p501) = f11_6 x1 x4 k2 n v9 v10 p501 := rfl
def f11 (N : Nat) (a0 : List Int) (a1 : Int) : Option (Bool) :=
 (f41 N a0 (24 : Int)).bind fun x1 =>
 (chk (decide ((ByteArray.size x1 : Int) ≠ 0))).bind fun _ =>
 (subS x1 (Int.tmod a1 (ByteArray.size x1 : Int)) (ByteArray.size x1 : Int)).bind fun x2 =>
 (subS x1 0 (Int.tmod a1 (ByteArray.size x1 : Int))).bind fun x3 =>
 (addS x2 x3).bind fun x4 =>
 joinK (f11_c10 N x1 x4) fun k2 =>
 f11_6 x1 x4 k2 N emptyS emptyS 0
def G11 (ds : List D) (d : D) : Prop := ∃ (N : Nat) (a0 : List Int) (a1 : Int) (r : Bool), ds = [sl_u8N a0, u8N a1] ∧ f11 N a0 a1 = some r ∧ d = bN r
set_option maxRecDepth 20000 in
set_option maxHeartbeats 4000000 in
theorem P11 : PureOK Try.prog 11 G11 := by
  refine pure_of_vc (c := mkCtx tyTree [(41, true, lendPg [[1], [0]] G41), (31, true, lendPg [[0], [0]] G31), (29, true, lendPg [[0]] G29), (22, true, lendPg [[1], [1]] G22), (20, true, purePg [[0]] G20), (18, true, lendPg [[0]] G18), (16, true, purePg [[0]] G16), (15, true, lendPg [] G15)]) rfl tyOK (ctx_lend (callable Try.func41 rfl rfl) P41 (ctx_lend (callable Try.func31 rfl rfl) P31 (ctx_lend (callable Try.func29 rfl rfl) P29 (ctx_lend (callable Try.func22 rfl rfl) P22 (ctx_cons (callable Try.func20 rfl rfl) P20 (ctx_lend (callable Try.func18 rfl rfl) P18 (ctx_cons (callable Try.func16 rfl rfl) P16 (ctx_lend (callable Try.func15 rfl rfl) P15 (ctx_nil))))))))) [[0]] 2 Try.func11 rfl rfl (by decide) (by kernel_rfl) ?_
  rintro ds d ⟨N, a0, a1, r, rfl, hF, rfl⟩ hok
  clear hok
  refine ⟨rfl, ?_⟩
  show vc _ _ _ _ ⟨[(0, .dat (sl_u8N a0)), (1, .dat (u8N a1))], []⟩ _
  unfold f11 at hF
  repeat' (first
    | ((with_reducible first | refine q0 _ _ ?_ | refine q1 _ _ _ _ ?_ | refine q2 _ _ _ ?_); clear Q q0 q1 q2)
    | ((with_reducible first | refine seq_op ?hx (fun Q q0 q1 q2 => ?_) | refine draw_op ?hx (fun Q q0 q1 q2 => ?_) | refine seq_op0 ?hx (fun Q q0 q1 q2 => ?_) | refine draw_op0 ?hx (fun Q q0 q1 q2 => ?_)); (case hx => exact rfl); conv => whnf)
    | ((with_reducible first | refine seq_off ?hx ?_ | refine seq_off0 ?hx ?_ | refine draw_off ?hx ?_ | refine draw_off0 ?hx ?_ | refine k_blk_out ?hx ?_ | refine vc_condT ?hx ?_); (case hx => exact rfl))
    | ((with_reducible refine seq_id ?_); (first | ((first | refine seq_opK rfl ?hy (fun Q q0 q1 q2 => ?_) | refine seq_opK0 rfl ?hy (fun Q q0 q1 q2 => ?_)); (case hy => first | assumption | exact notT (by assumption) | exact rfl); conv => whnf) | ((first | refine seq_offK rfl ?hy ?_ | refine seq_offK0 rfl ?hy ?_); (case hy => first | assumption | exact notF (by assumption) | exact rfl)) | (revert hF; (with_reducible first | refine seq_opF ?hx ?_ ?_ | refine seq_opF0 ?hx ?_ ?_); (case hx => exact rfl); (intro hc hF Q q0 q1 q2; conv => whnf); rotate_left; (intro hc hF); rotate_right) | (revert hF; (with_reducible first | refine seq_opN ?hx ?_ ?_ | refine seq_opN0 ?hx ?_ ?_); (case hx => exact rfl); (intro hc hF); rotate_left; (intro hc hF Q q0 q1 q2; conv => whnf); rotate_right)))
    | ((with_reducible refine cond_id ?_); (first | ((refine condKT rfl ?hy ?_); (case hy => first | assumption | exact notT (by assumption) | exact rfl)) | ((refine condKF rfl ?hy ?_); (case hy => first | assumption | exact notF (by assumption) | exact rfl)) | (revert hF; (with_reducible refine condF ?hx ?_ ?_); (case hx => exact rfl); all_goals (intro hc hF))))
    | ((with_reducible refine seq_nil ?_); (first | ((with_reducible refine hR _ ?_); clear R hR) | ((with_reducible refine hL _ ?_); clear L hL)))
    | ((with_reducible refine draw_nil ?_); (with_reducible refine hR _ _ ?hx ?_); (case hx => kernel_rfl); (first | clear R hR | clear hR))
    | ((with_reducible first | refine int_step ?_ | refine len_step ?_ | refine idx2 (by assumption) ?_ | refine idx3 (by assumption) ?_); conv => whnf)
    | (with_reducible first | refine vc_block ?_ | refine vc_skip ?_ | refine vc_ret ?_ | refine vc_exit ?_ | refine vc_region (fun R hR => ?_) | refine k_seq_ret ?_ | refine k_seq_exit ?_ | refine k_blk ?_ | refine k_blk_ret ?_ | refine k_blk_here ?_ | refine k_loop_ret ?_ | refine k_loop_exit ?_)
    | ((with_reducible refine vc_seqN [38, 25, 10] ?hx ?_); (case hx => exact rfl))
    | ((with_reducible refine vc_draw ?hx (fun R hR => ?_)); (case hx => exact rfl))
    | (revert hF; (refine Lp.cut3 Lf11_c38 f11_c38 38 rfl rfl ?_ ?_); (intro hF); rotate_left; (rintro _ hF; dsimp only [Lf11_c38] at hF; unfold f11_c38 at hF); rotate_right)
    | exact Lp.head Ef11_c38 hF () ⟨_, rfl, rfl, rfl, rfl⟩ rfl
    | (revert hF; (refine Lp.loop Ef11_30 _ rfl ⟨_, rfl, rfl, rfl, rfl⟩ (by first | exact rfl | ((try dsimp only [Lf11_30]); first | assumption | omega | (simp only [List.length_set]; done))) (fun _ => rfl) ?_); rintro n v183 hF; dsimp only [Lf11_30, f11_30] at hF; unfold f11_30b at hF)
    | exact Lp.back Ef11_30 hF _ ⟨_, rfl, rfl, rfl, rfl⟩ (by first | exact rfl | ((try dsimp only [Lf11_30]); first | assumption | omega | (simp only [List.length_set]; done)))
    | (revert hF; (refine Lp.cut7 Lf11_c25 f11_c25 25 rfl rfl ?_ ?_); (intro hF); rotate_left; (rintro b1700 hF; dsimp only [Lf11_c25] at hF; unfold f11_c25 at hF); rotate_right)
    | exact Lp.head Ef11_c25 hF () ⟨_, rfl, rfl, rfl, rfl⟩ rfl
    | (revert hF; (refine Lp.loop Ef11_19 () rfl ⟨_, rfl, rfl, rfl, rfl⟩ rfl (fun _ => rfl) ?_); rintro n ⟨b1700, p1801⟩ hF; dsimp only [Lf11_19, f11_19] at hF; unfold f11_19b at hF)
    | exact Lp.back Ef11_19 hF () ⟨_, rfl, rfl, rfl, rfl⟩ rfl
    | (revert hF; (refine Lp.cut3 Lf11_c10 f11_c10 10 rfl rfl ?_ ?_); (intro hF); rotate_left; (rintro ⟨v9, v10⟩ hF; dsimp only [Lf11_c10] at hF; unfold f11_c10 at hF); rotate_right)
    | exact Lp.head Ef11_c10 hF () ⟨_, rfl, rfl, rfl, rfl⟩ rfl
    | (revert hF; (refine Lp.loop Ef11_6 () rfl ⟨_, rfl, rfl, rfl, rfl⟩ rfl (fun _ => rfl) ?_); rintro n ⟨v9, v10, p501⟩ hF; dsimp only [Lf11_6, f11_6] at hF; unfold f11_6b at hF)
    | exact Lp.back Ef11_6 hF () ⟨_, rfl, rfl, rfl, rfl⟩ rfl
    | (revert hF; (with_reducible refine G15.lend ?hx ?_); (case hx => exact rfl); intro v hF; conv => whnf)
    | (revert hF; (with_reducible refine G16.step ?hx ?_); (case hx => exact rfl); intro v hF; conv => whnf)
    | (revert hF; (with_reducible refine G18.lend ?hx ?_); (case hx => exact rfl); intro v hF; conv => whnf)
    | (revert hF; (with_reducible refine G20.step ?hx ?_); (case hx => exact rfl); intro v hF; conv => whnf)
    | (revert hF; (with_reducible refine G22.lend ?hx ?_); (case hx => exact rfl); intro v hF; conv => whnf)
    | (revert hF; (with_reducible refine G29.lend ?hx ?_); (case hx => exact rfl); intro v hF; conv => whnf)
    | (revert hF; (with_reducible refine G31.lend ?hx ?_); (case hx => exact rfl); intro v hF; conv => whnf)
    | (revert hF; (with_reducible refine G41.lend ?hx ?_); (case hx => exact rfl); intro v hF; conv => whnf)
    | (revert hF; (refine idxS_step ?_); intro x hF; conv => whnf)
    | (revert hF; (refine subS_step ?_); intro x hF; conv => whnf)
    | (revert hF; (refine addS_step ?_); intro x hF; conv => whnf)
    | (revert hF; (refine lenM_step ?_); intro x hF; conv => whnf)
    | (revert hF; (refine some_step ?_); intro x hF; conv => whnf)
    | (revert hF; (refine look_step (eK := strN) (eV := bN) strN_inj ?hk ?hz ?hd ?he ?_); (case hk => exact fun _ => rfl); (case hz => exact rfl); (case hd => exact rfl); (case he => exact rfl); intro x hF; conv => whnf)
    | (revert hF; (refine put_step (eK := strN) (eV := bN) strN_inj ?hk ?hv ?hd ?he ?_); (case hk => exact fun _ => rfl); (case hv => exact rfl); (case hd => exact rfl); (case he => exact rfl); intro x hF; conv => whnf)
    | (revert hF; (with_reducible refine idx1 ?hn ?_); (case hn => first | exact rfl | exact (List.length_map _) | assumption | omega | simp); intro x hx hF; conv => whnf)
    | ((refine row_all ?hn ?_); (case hn => first | exact rfl | (simp; done) | (simp; omega)); conv => whnf)
    | ((with_reducible refine le_step ?hn ?_); (case hn => first | exact rfl | assumption | omega); conv => whnf)
    | ((refine ⟨?hx, ?_⟩); (case hx => exact ⟨rfl, Nat.le_of_ble_eq_true rfl, rfl⟩); conv => whnf)
    | ((with_reducible refine ex_step ?_); conv => whnf)
    | ((with_reducible have hG := chk_fact hF); clear hF; (refine ⟨?hx, ?_⟩); (case hx => (first | exact of_decide_eq_true hG.1 | exact hG.1)); have hF := hG.2; clear hG; conv => whnf)
    | ((with_reducible refine both_T ?hx ?_); (case hx => first | exact rfl | assumption | exact notT (by assumption)); conv => whnf)
    | ((with_reducible refine both_F ?hx ?_); (case hx => first | exact rfl | assumption | exact notF (by assumption)); conv => whnf)
    | (revert hF; (with_reducible refine ite_step ?_ ?_) <;> (intro hc hF; conv => whnf))
    | ((with_reducible refine vc_condF ?hx ?_); (case hx => exact rfl))
    | (show retD _ _ _ _ _ _; conv => whnf)
    | ((refine ⟨?hx, trivial⟩); (case hx => (cases hF; exact rfl)))
    | ((refine ⟨?hx, ?_⟩); (case hx => decide); conv => whnf)
    | with_reducible refine k_seq ?_
    | (have hF : (none : Option _) = some _ := hF; cases hF))
end
end Go.Vc
namespace Go.Vc
set_option linter.unusedVariables false
set_option linter.unnecessarySimpa false
set_option linter.unusedSimpArgs false
section
variable {α β σ : Type}
open Classical in
theorem loop_ex {F : Nat → Int → Option β} {k0 e : Option β} {p : Nat → Prop} (len : Nat)
    (hs : ∀ n i, i < len → F (n + 1) (i : Int) = if p i then e else F n ((i + 1 : Nat) : Int)) (he : ∀ n, F (n + 1) (len : Int) = k0) :
    ∀ n i, i ≤ len → len - i < n → F n (i : Int) = if (∃ j, i ≤ j ∧ j < len ∧ p j) then e else k0 := by
  intro n
  induction n with
  | zero => intro i _ h; omega
  | succ n ih =>
    intro i hi hn
    by_cases h : i = len
    · subst h
      rw [he, if_neg]
      rintro ⟨j, h1, h2, _⟩; omega
    · rw [hs n i (by omega)]
      by_cases hp : p i
      · rw [if_pos hp, if_pos ⟨i, Nat.le_refl _, by omega, hp⟩]
      · rw [if_neg hp, ih (i + 1) (by omega) (by omega)]
        by_cases hx : ∃ j, i + 1 ≤ j ∧ j < len ∧ p j
        · obtain ⟨j, h1, h2, h3⟩ := hx
          rw [if_pos ⟨j, h1, h2, h3⟩, if_pos ⟨j, by omega, h2, h3⟩]
        · rw [if_neg hx, if_neg]
          rintro ⟨j, h1, h2, h3⟩
          by_cases hj : j = i
          · subst hj; exact hp h3
          · exact hx ⟨j, by omega, h2, h3⟩
open Classical in
theorem loop_ex0 {F : Nat → Int → Option β} {k0 e : Option β} {p : Nat → Prop} (len : Nat)
    (hs : ∀ n i, i < len → F (n + 1) (i : Int) = if p i then e else F n ((i + 1 : Nat) : Int)) (he : ∀ n, F (n + 1) (len : Int) = k0) {n : Nat} (hn : len < n) :
    F n 0 = if (∃ j, j < len ∧ p j) then e else k0 := by
  have := loop_ex len hs he n 0 (by omega) (by omega)
  rw [show ((0 : Nat) : Int) = 0 from rfl] at this
  rw [this]
  by_cases h : ∃ j, j < len ∧ p j
  · obtain ⟨j, h1, h2⟩ := h
    rw [if_pos ⟨j, by omega, h1, h2⟩, if_pos ⟨j, h1, h2⟩]
  · rw [if_neg h, if_neg]
    rintro ⟨j, _, h1, h2⟩; exact h ⟨j, h1, h2⟩
theorem loop_inv {F : Nat → σ → Int → Option β} {k : σ → Option β} (g : σ → Nat → σ) (Inv : Nat → σ → Prop) (len : Nat)
    (hs : ∀ n s i, i < len → Inv i s → F (n + 1) s (i : Int) = F n (g s i) ((i + 1 : Nat) : Int)) (hi : ∀ s i, i < len → Inv i s → Inv (i + 1) (g s i)) (he : ∀ n s, F (n + 1) s (len : Int) = k s) :
    ∀ n i s, i ≤ len → len - i < n → Inv i s → F n s (i : Int) = k ((List.range' i (len - i)).foldl g s) ∧ Inv len ((List.range' i (len - i)).foldl g s) := by
  intro n
  induction n with
  | zero => intro i s _ h; omega
  | succ n ih =>
    intro i s hl hn h0
    by_cases h : i = len
    · subst h
      rw [he, Nat.sub_self]; exact ⟨rfl, h0⟩
    · rw [hs n s i (by omega) h0]
      obtain ⟨h1, h2⟩ := ih (i + 1) (g s i) (by omega) (by omega) (hi s i (by omega) h0)
      rw [show len - i = (len - (i + 1)) + 1 by omega, List.range'_succ]
      exact ⟨h1, h2⟩
theorem loop_inv0 {F : Nat → σ → Int → Option β} {k : σ → Option β} (g : σ → Nat → σ) (Inv : Nat → σ → Prop) (len : Nat)
    (hs : ∀ n s i, i < len → Inv i s → F (n + 1) s (i : Int) = F n (g s i) ((i + 1 : Nat) : Int)) (hi : ∀ s i, i < len → Inv i s → Inv (i + 1) (g s i)) (he : ∀ n s, F (n + 1) s (len : Int) = k s)
    {n : Nat} {s : σ} (hn : len < n) (h0 : Inv 0 s) : F n s 0 = k ((List.range len).foldl g s) ∧ Inv len ((List.range len).foldl g s) := by
  have := loop_inv g Inv len hs hi he n 0 s (by omega) (by omega) h0
  rw [List.range_eq_range']
  simpa using this
end
end Go.Vc
namespace Go.Vc
open Go.Proofs
set_option linter.unusedVariables false
set_option linter.unnecessarySimpa false
set_option linter.unusedSimpArgs false
end Go.Vc
namespace Go.Vc
open Go.Proofs
set_option linter.unusedVariables false
set_option linter.unnecessarySimpa false
set_option linter.unusedSimpArgs false
end Go.Vc
namespace Go.Vc
set_option linter.unusedVariables false
set_option linter.unnecessarySimpa false
set_option linter.unusedSimpArgs false
set_option linter.unusedSimpArgs false
section
variable {l m : List UInt8}
@[simp] theorem strC_size : (strC l).size = l.length := by simp [strC, ByteArray.size]
@[simp] theorem strC_toList : (strC l).data.toList = l := by simp [strC]
theorem strC_inj : strC l = strC m ↔ l = m := by
  constructor
  · intro h
    have := congrArg (fun s : ByteArray => s.data.toList) h
    simpa using this
  · rintro rfl; rfl
theorem emptyS_eq : emptyS = strC [] := rfl
theorem extract_L {a b : Nat} : (strC l).extract a b = strC ((l.take b).drop a) := by
  have h : ∀ s : ByteArray, s = strC s.data.toList := fun s => by cases s; simp [strC]
  rw [h ((strC l).extract a b)]
  simp [ByteArray.data_extract, List.drop_take, strC]
theorem subS_L {a b : Nat} (h : a ≤ b) (h' : b ≤ l.length) : subS (strC l) (a : Int) (b : Int) = some (strC ((l.take b).drop a)) := by
  unfold subS
  rw [if_pos ⟨by omega, by omega, by simp; omega⟩]
  simp only [Int.toNat_natCast, subStr, extract_L]
theorem append_L : strC l ++ strC m = strC (l ++ m) := by
  have h : ∀ s : ByteArray, s = strC s.data.toList := fun s => by cases s; simp [strC]
  rw [h (strC l ++ strC m)]
  simp [strC]
theorem addS_L (h : l.length + m.length ≤ 1000000) : addS (strC l) (strC m) = some (strC (l ++ m)) := by
  unfold addS
  rw [if_pos (by simp [maxLen]; omega), append_L]
theorem byteAt_L {i : Nat} (h : i < l.length) : byteAt (strC l) i = (l[i].toNat : Int) := by
  unfold byteAt
  simp [h]
theorem idxS_L {i : Nat} (h : i < l.length) : idxS (strC l) (i : Int) = some (l[i].toNat : Int) := by
  unfold idxS
  rw [if_pos ⟨by omega, by simp; omega⟩]
  simp only [Int.toNat_natCast, byteAt_L h]
theorem toNat_inj {a b : UInt8} : (a.toNat : Int) = (b.toNat : Int) ↔ a = b := by
  constructor
  · intro h; exact UInt8.toNat_inj.1 (by omega)
  · rintro rfl; rfl
theorem rune_lo {p : Nat} (h : p < l.length) (hb : l[p].toNat < 128) : runeAt (strC l) p = ((l[p].toNat : Int), p + 1) := by
  have hs : p < (strC l).size := by simpa using h
  have he : (strC l)[p] = l[p] := by
    have h1 : byteAt (strC l) p = _ := (str_get (strC l) p hs).2.symm
    have h2 := byteAt_L h
    exact toNat_inj.1 (h1.symm.trans h2)
  unfold runeAt
  rw [decode_ascii (strC l) p hs (by rw [he]; omega)]
  simp only [he]
  rfl
theorem rune_hi {p : Nat} (h : p < l.length) (hb : 128 ≤ l[p].toNat) : 128 ≤ (runeAt (strC l) p).1 := by
  have hs : p < (strC l).size := by simpa using h
  have he : (strC l)[p] = l[p] := by
    have h1 : byteAt (strC l) p = _ := (str_get (strC l) p hs).2.symm
    have h2 := byteAt_L h
    exact toNat_inj.1 (h1.symm.trans h2)
  have := (decode_high (strC l) p hs (by rw [he]; omega)).1
  show (128 : Int) ≤ ((Utf8.decode (strC l) p).1 : Int)
  omega
end
def okb (b : UInt8) : Bool := decide (97 ≤ b.toNat) && decide (b.toNat ≤ 122)
def chk8 (l : List UInt8) : Int := if l = [] then 1 else if 24 < l.length then 19 else if l.all okb then 0 else 9
theorem drop_all {l : List UInt8} {p : Nat} (h : p < l.length) : (l.drop p).all okb = (okb l[p] && (l.drop (p + 1)).all okb) := by
  rw [List.drop_eq_getElem_cons h]; rfl
theorem okb_lo {b : UInt8} (h : (b.toNat : Int) < 97) : okb b = false := by simp [okb]; omega
theorem okb_hi {b : UInt8} (h : (122 : Int) < (b.toNat : Int)) : okb b = false := by simp [okb]; omega
theorem okb_in {b : UInt8} (h : ¬ (b.toNat : Int) < 97) (h' : ¬ (122 : Int) < (b.toNat : Int)) : okb b = true := by simp [okb]; omega
theorem f23_loop {l : List UInt8} {k0 : Option Int} : ∀ (n p : Nat), l.length - p < n → p ≤ l.length → f23_6 (strC l) k0 n p = if (l.drop p).all okb then k0 else some 9 := by
  intro n
  induction n with
  | zero => intro p h; omega
  | succ n ih =>
    intro p hn hp
    unfold f23_6 f23_6b
    by_cases h : p < l.length
    · simp only [strC_size, h, decide_true, cond_true, Option.bind_some]
      rw [drop_all h]
      by_cases hb : l[p].toNat < 128
      · rw [rune_lo h hb]
        by_cases h1 : (l[p].toNat : Int) < 97
        · simp [h1, okb_lo h1]
        · by_cases h2 : (122 : Int) < l[p].toNat
          · simp [h1, h2, okb_hi h2]
          · simp only [h1, h2, decide_false, cond_false, okb_in h1 h2, Bool.true_and]
            rw [ih (p + 1) (by omega) (by omega)]
      · have := rune_hi h (by omega)
        simp only [show ¬ (runeAt (strC l) p).1 < 97 by omega, show (122 : Int) < (runeAt (strC l) p).1 by omega, decide_false, decide_true, cond_false, cond_true]
        rw [okb_hi (by omega)]; simp
    · have : p = l.length := by omega
      subst this
      simp
theorem f23_eq {l : List UInt8} {N : Nat} (hN : 30 ≤ N) : f23 N (strC l) = some (chk8 l) := by
  unfold f23 chk8
  by_cases h : l = []
  · subst h; simp [emptyS_eq]
  · simp only [emptyS_eq, strC_inj, h, decide_false, cond_false, strC_size, if_false]
    by_cases h2 : 24 < l.length
    · simp [h2, show (24 : Int) < (l.length : Int) by omega]
    · simp only [show ¬ (24 : Int) < (l.length : Int) by omega, decide_false, cond_false, joinK]
      rw [f23_loop N 0 (by omega) (by omega)]
      simp [h2, f23_c10]
      split <;> rfl
theorem chk8_zero {l : List UInt8} : chk8 l = 0 ↔ l ≠ [] ∧ l.length ≤ 24 ∧ l.all okb = true := by
  unfold chk8
  by_cases h : l = [] <;> by_cases h2 : 24 < l.length <;> by_cases h3 : l.all okb = true <;> simp [h, h2, h3] <;> omega
def isP (l : List UInt8) (p : Nat) : Bool := (l.drop p).isPrefixOf l
theorem isP_iff {l : List UInt8} {p : Nat} : isP l p = true ↔ ∀ i, (h : i + p < l.length) → l[i] = l[i + p] := by
  unfold isP
  rw [List.isPrefixOf_iff_prefix, List.prefix_iff_getElem?]
  constructor
  · intro h i hi
    have := h i (by simp; omega)
    rw [List.getElem_drop] at this
    rw [List.getElem?_eq_getElem (by omega)] at this
    have := Option.some.inj this
    rw [this]
    congr 1
    omega
  · intro h i hi
    simp at hi
    rw [List.getElem?_eq_getElem (by omega), h i (by omega), List.getElem_drop]
    congr 2
    omega
end Go.Vc
namespace Go.Vc
open Go.Proofs
set_option linter.unusedVariables false
set_option linter.unnecessarySimpa false
set_option linter.unusedSimpArgs false
end Go.Vc
namespace Go.Vc
open Go.Proofs
set_option linter.unusedVariables false
set_option linter.unnecessarySimpa false
set_option linter.unusedSimpArgs false
end Go.Vc
namespace Go.Vc
open Go.Proofs
set_option linter.unusedVariables false
set_option linter.unnecessarySimpa false
set_option linter.unusedSimpArgs false
end Go.Vc
namespace Go.Vc
open Go.Proofs
set_option linter.unusedVariables false
set_option linter.unnecessarySimpa false
set_option linter.unusedSimpArgs false
end Go.Vc
namespace Go.Vc
open Go.Proofs
set_option linter.unusedVariables false
set_option linter.unnecessarySimpa false
set_option linter.unusedSimpArgs false
set_option linter.unusedSimpArgs false
def perN (l : List UInt8) : List Nat := (List.range' 1 l.length).filter (isP l)
def toI (l : List Nat) : List Int := l.map fun (i : Nat) => (i : Int)
theorem isPer_L {l : List UInt8} {p : Nat} : isPer (strC l) p = isP l p := by
  unfold isPer isP Lib.hasPrefix
  rw [strC_size, extract_L, strC_toList, strC_toList, List.take_length]
theorem perL_L {l : List UInt8} : perL (strC l) = toI (perN l) := by
  unfold perL perTo perN toI
  rw [strC_size, Nat.add_sub_cancel]
  congr 1
  exact List.filter_congr fun x _ => isPer_L
theorem f47_eq {l : List UInt8} {N : Nat} (hl : l.length ≤ 1000) : f47 N (strC l) = some (toI (perN l)) := by
  unfold f47
  rw [if_pos (by simpa using hl), perL_L]
theorem foldl_gather {p : Nat → Bool} : ∀ (L : List Nat) (s : List Int), L.foldl (fun s i => if p i = true then s ++ [(i : Int)] else s) s = s ++ toI (L.filter p) := by
  intro L
  induction L with
  | nil => intro s; simp [toI]
  | cons x L ih =>
    intro s
    rw [List.foldl_cons, ih]
    by_cases h : p x = true <;> simp [h, toI]
theorem gather_loop {β : Type} {F : Nat → List Int → Int → Option β} {k : List Int → Option β} {p : Nat → Bool} (m : Nat)
    (hs : ∀ n s i, 1 ≤ i → i ≤ m → s.length ≤ i → F (n + 1) s (i : Int) = F n (if p i = true then s ++ [(i : Int)] else s) ((i + 1 : Nat) : Int)) (he : ∀ n s, F (n + 1) s ((m + 1 : Nat) : Int) = k s)
    {n : Nat} (hn : m < n) : F n [] (1 : Int) = k (toI ((List.range' 1 m).filter p)) := by
  have := (loop_inv (F := F) (k := k) (fun s i => if p i = true then s ++ [(i : Int)] else s) (fun i s => s.length ≤ i ∧ 1 ≤ i) (m + 1) (fun n s i hi h => hs n s i h.2 (by omega) h.1)
    (fun s i hi h => by
      refine ⟨?_, by omega⟩
      by_cases h2 : p i = true
      · simp [h2]; exact h.1
      · simp [h2]; omega) he n 1 [] (by omega) (by omega) ⟨by simp, by omega⟩).1
  rw [show ((1 : Nat) : Int) = 1 from rfl] at this
  rw [this, Nat.add_sub_cancel, foldl_gather]
  simp
theorem app_int {s : List Int} {x : Int} (h : s.length ≤ 1000) : app 8 s [x] = some (s ++ [x]) := app_ok (by simp; omega) (by simp; omega)
theorem chk8_len {l : List UInt8} (h : chk8 l = 0) : l.length ≤ 24 := (chk8_zero.1 h).2.1
theorem f16_eq {l : List UInt8} {N : Nat} (hN : 30 ≤ N) : f16 N (strC l) = some (if chk8 l = 0 then (toI (perN l), 0) else ([], chk8 l)) := by
  unfold f16
  rw [f23_eq hN]
  by_cases h : chk8 l = 0
  · have := chk8_len h
    simp only [Option.bind_some, h, not_true, decide_false, cond_false, if_true]
    rw [f47_eq (by omega)]; rfl
  · simp [h]
theorem f22_eq {a b : List Int} {N : Nat} (ha : a.length ≤ 1000) (hN : a.length < N) : f22 N a b = some (decide (a = b)) := by
  unfold f22
  by_cases h : a.length = b.length
  · simp only [h, not_true, decide_false, cond_false, joinK]
    rw [loop_ex0 (F := f22_4 a b f22_c8) (k0 := f22_c8) (e := some false) (p := fun i => ∃ (h1 : i < a.length) (h2 : i < b.length), a[i] ≠ b[i]) a.length]
    · by_cases hx : ∃ j, j < a.length ∧ ∃ (h1 : j < a.length) (h2 : j < b.length), a[j] ≠ b[j]
      · rw [if_pos hx]
        obtain ⟨j, _, h1, h2, h3⟩ := hx
        rw [decide_eq_false]
        rintro rfl; exact h3 rfl
      · rw [if_neg hx, decide_eq_true]; rfl
        refine List.ext_getElem h fun i h1 h2 => ?_
        by_cases he : a[i] = b[i]
        · exact he
        · exact absurd ⟨i, h1, h1, h2, he⟩ hx
    · intro n i hi
      conv => lhs; unfold f22_4 f22_4b
      simp only [show (i : Int) < (a.length : Int) by omega, decide_true, cond_true, ix_get hi, ix_get (show i < b.length by omega), Option.bind_some]
      rw [W_nat (by omega)]
      by_cases he : a[i] = b[i]
      · rw [if_neg (by rintro ⟨_, _, h⟩; exact h he)]; simp [he]
      · rw [if_pos ⟨hi, by omega, he⟩]; simp [he]
    · intro n
      conv => lhs; unfold f22_4 f22_4b
      simp
    · exact hN
  · have : ¬ (a.length : Int) = (b.length : Int) := by omega
    simp only [this, not_false_eq_true, decide_true, cond_true]
    rw [decide_eq_false]
    rintro rfl; exact h rfl
theorem perN_len {l : List UInt8} : (perN l).length ≤ l.length := Nat.le_trans (List.length_filter_le _ _) (by simp)
theorem toI_len {a : List Nat} : (toI a).length = a.length := by simp [toI]
def rootN (l : List UInt8) : Nat := ((List.range' 1 l.length).find? fun p => decide (l.length % p = 0) && isP l p).getD l.length
theorem isP_len {l : List UInt8} : isP l l.length = true := by simp [isP]
theorem rootN_spec {l : List UInt8} (h : l ≠ []) : 1 ≤ rootN l ∧ rootN l ≤ l.length ∧ l.length % rootN l = 0 ∧ isP l (rootN l) = true ∧ ∀ q, 1 ≤ q → q < rootN l → ¬ (l.length % q = 0 ∧ isP l q = true) := by
  have hl : 0 < l.length := List.length_pos_iff.2 h
  unfold rootN
  cases hf : (List.range' 1 l.length).find? fun p => decide (l.length % p = 0) && isP l p with
  | none =>
    rw [List.find?_eq_none] at hf
    exact absurd (hf l.length (by rw [List.mem_range'_1]; omega)) (by simp [isP_len])
  | some p =>
    obtain ⟨hp, pre, suf, hab, hno⟩ := List.find?_eq_some_iff_append.1 hf
    have hm : p ∈ List.range' 1 l.length := by rw [hab]; simp
    rw [List.mem_range'_1] at hm
    simp at hp
    refine ⟨hm.1, by simp; omega, hp.1, hp.2, fun q h1 h2 => ?_⟩
    simp at h2
    have hq : q ∈ List.range' 1 l.length := by rw [List.mem_range'_1]; omega
    rw [hab] at hq
    rcases List.mem_append.1 hq with hq | hq
    · have := hno q hq
      simp at this
      rintro ⟨a, b⟩
      rcases this with h | h
      · exact h a
      · rw [h] at b; cases b
    · -- behind p are greater ones
      have hs : (List.range' 1 l.length).Pairwise (· < ·) := List.pairwise_lt_range'
      rw [hab, List.pairwise_append] at hs
      rcases List.mem_cons.1 hq with rfl | hq
      · omega
      · have := (List.pairwise_cons.1 hs.2.1).1 q hq
        omega
theorem rootN_uniq {l : List UInt8} (h : l ≠ []) {p : Nat} (h1 : 1 ≤ p) (h2 : l.length % p = 0) (h3 : isP l p = true) (h4 : ∀ q, 1 ≤ q → q < p → ¬ (l.length % q = 0 ∧ isP l q = true)) : p = rootN l := by
  obtain ⟨r1, r2, r3, r4, r5⟩ := rootN_spec h
  rcases Nat.lt_trichotomy p (rootN l) with hh | hh | hh
  · exact absurd ⟨h2, h3⟩ (r5 p h1 hh)
  · exact hh
  · exact absurd ⟨r3, r4⟩ (h4 _ r1 hh)
theorem rootR_find {l : List UInt8} (L : List Nat) (hL : ∀ p ∈ L, 1 ≤ p) : rootR (strC l) (toI (L.filter (isP l))) = match L.find? (fun p => decide (l.length % p = 0) && isP l p) with
    | some p => (strC (l.take p), ((l.length / p : Nat) : Int))
    | none => (strC l, 1) := by
  induction L with
  | nil => rfl
  | cons p L ih =>
    have ih := ih fun q hq => hL q (by simp [hq])
    have h1 := hL p (by simp)
    by_cases hp : isP l p = true
    · simp only [List.filter_cons, hp, if_true, toI, List.map_cons, rootR, strC_size, List.find?_cons]
      by_cases hd : l.length % p = 0
      · have : ((l.length : Int) % (p : Int)) = 0 := by omega
        simp only [this, if_true, hd, decide_true, Bool.and_self]
        rw [Int.toNat_natCast, extract_L]
        simp
      · have : ¬ ((l.length : Int) % (p : Int)) = 0 := by omega
        simp only [this, if_false, hd, decide_false, Bool.false_and]
        exact ih
    · simp only [Bool.not_eq_true] at hp
      simp only [List.filter_cons, hp, List.find?_cons, Bool.and_false]
      exact ih
theorem rootR_L {l : List UInt8} (h : l ≠ []) : rootR (strC l) (perL (strC l)) = (strC (l.take (rootN l)), ((l.length / rootN l : Nat) : Int)) := by
  rw [perL_L]
  unfold perN
  rw [rootR_find _ (by intro p hp; rw [List.mem_range'_1] at hp; exact hp.1)]
  have hl : 0 < l.length := List.length_pos_iff.2 h
  unfold rootN
  cases hf : (List.range' 1 l.length).find? fun p => decide (l.length % p = 0) && isP l p with
  | none =>
    rw [List.find?_eq_none] at hf
    exact absurd (hf l.length (by rw [List.mem_range'_1]; omega)) (by simp [isP_len])
  | some p => rfl
theorem chk8_rng (l : List UInt8) : 0 ≤ chk8 l ∧ chk8 l ≤ 1000 := by
  unfold chk8
  split
  · omega
  · split
    · omega
    · split <;> omega
theorem f18_eq {l : List UInt8} {N : Nat} (hN : 30 ≤ N) (hl : l.length ≤ 100) :
    f18 N (strC l) = some (if chk8 l = 0 then (strC (l.take (rootN l)), ((l.length / rootN l : Nat) : Int), 0) else (emptyS, 0, chk8 l)) := by
  unfold f18
  rw [if_pos (by simp; omega), f23_eq hN, Option.bind_some]
  have hc := chk8_rng l
  have hr : 0 ≤ (rootR (strC l) (perL (strC l))).2 ∧ (rootR (strC l) (perL (strC l))).2 ≤ 1000 ∧ (rootR (strC l) (perL (strC l))).1.size ≤ 1000 := by
    by_cases h : l = []
    · subst h
      rw [perL_L]; simp [perN, toI, rootR]
    · rw [rootR_L h]
      have := Nat.div_le_self l.length (rootN l)
      generalize l.length / rootN l = q at *
      refine ⟨by simp only []; omega, by simp only []; omega, ?_⟩
      simp
      omega
  rw [if_pos ⟨hc.1, hc.2, hr.1, hr.2.1, hr.2.2⟩]
  by_cases h : chk8 l = 0
  · rw [if_pos h, if_pos h, rootR_L (chk8_zero.1 h).1]
  · rw [if_neg h, if_neg h]
end Go.Vc
namespace Go.Vc
open Go.Proofs
set_option linter.unusedVariables false
set_option linter.unnecessarySimpa false
set_option linter.unusedSimpArgs false
end Go.Vc
namespace Go.Vc
open Go.Proofs
set_option linter.unusedVariables false
set_option linter.unnecessarySimpa false
set_option linter.unusedSimpArgs false
end Go.Vc
namespace Go.Vc
open Go.Proofs
set_option linter.unusedVariables false
set_option linter.unnecessarySimpa false
set_option linter.unusedSimpArgs false
set_option linter.unusedSimpArgs false
theorem bytesLess_lt : ∀ (x y : List UInt8), Op.bytesLess x y = decide (x < y)
  | [], [] => by simp [Op.bytesLess]
  | _ :: _, [] => by simp [Op.bytesLess]
  | [], _ :: _ => by simp [Op.bytesLess]
  | a :: x, b :: y => by
    rw [Op.bytesLess, bytesLess_lt x y]
    simp only [List.cons_lt_cons_iff]
    by_cases h1 : a < b <;> by_cases h2 : a = b <;> by_cases h3 : x < y <;> simp [h1, h2, h3]
theorem strLt_L {l m : List UInt8} : strLt (strC l) (strC m) = decide (l < m) := by
  unfold strLt
  rw [strC_toList, strC_toList, bytesLess_lt]
theorem lex_irrefl (l : List UInt8) : ¬ l < l := List.lt_irrefl l
theorem lex_tri {l m : List UInt8} (h1 : ¬ l < m) (h2 : ¬ m < l) : l = m := List.le_antisymm (List.not_lt.1 h2) (List.not_lt.1 h1)
theorem lex_asymm {l m : List UInt8} (h : l < m) : ¬ m < l := fun h' => List.lt_irrefl l (List.lt_trans h h')
theorem lex_le_trans {a b c : List UInt8} (h1 : ¬ b < a) (h2 : ¬ c < b) : ¬ c < a := by
  intro h
  by_cases h3 : a = b
  · subst h3; exact h2 h
  · have : a < b := by
      by_cases h4 : a < b
      · exact h4
      · exact absurd (lex_tri h4 h1) h3
    exact h2 (List.lt_trans h this)
def leastOf (L : List (List UInt8)) (o : List UInt8) : List UInt8 := L.foldl (fun o x => if x < o then x else o) o
theorem leastOf_spec : ∀ (L : List (List UInt8)) (o : List UInt8), (leastOf L o = o ∨ leastOf L o ∈ L) ∧ (∀ x ∈ L, ¬ x < leastOf L o) ∧ ¬ o < leastOf L o := by
  intro L
  induction L with
  | nil => intro o; exact ⟨.inl rfl, by simp, lex_irrefl o⟩
  | cons x L ih =>
    intro o
    simp only [leastOf, List.foldl_cons]
    by_cases h : x < o
    · rw [if_pos h]
      obtain ⟨h1, h2, h3⟩ := ih x
      refine ⟨.inr ?_, fun y hy => ?_, ?_⟩
      · rcases h1 with h1 | h1
        · rw [show List.foldl (fun o x => if x < o then x else o) x L = x from h1]; simp
        · exact List.mem_cons_of_mem _ h1
      · rcases List.mem_cons.1 hy with rfl | hy
        · exact h3
        · exact h2 y hy
      · exact lex_le_trans h3 (lex_asymm h)
    · rw [if_neg h]
      obtain ⟨h1, h2, h3⟩ := ih o
      refine ⟨?_, fun y hy => ?_, h3⟩
      · rcases h1 with h1 | h1
        · exact .inl h1
        · exact .inr (List.mem_cons_of_mem _ h1)
      · rcases List.mem_cons.1 hy with rfl | hy
        · exact lex_le_trans h3 h
        · exact h2 y hy
def rot (l : List UInt8) (i : Nat) : List UInt8 := l.drop i ++ l.take i
theorem rot_len {l : List UInt8} {i : Nat} : (rot l i).length = l.length := by simp [rot]; omega
theorem rot_zero {l : List UInt8} : rot l 0 = l := by simp [rot]
theorem rot_full {l : List UInt8} : rot l l.length = l := by simp [rot]
theorem rot_get {l : List UInt8} {i x : Nat} (hi : i ≤ l.length) (hx : x < l.length) : (rot l i)[x]? = l[(x + i) % l.length]? := by
  unfold rot
  by_cases h : x < l.length - i
  · rw [List.getElem?_append_left (by simp; omega), List.getElem?_drop, Nat.mod_eq_of_lt (by omega), Nat.add_comm]
  · rw [List.getElem?_append_right (by simp; omega), List.length_drop, List.getElem?_take_of_lt (by omega)]
    congr 1
    rw [Nat.mod_eq_sub_mod (by omega), Nat.mod_eq_of_lt (by omega)]
    omega
theorem rot_rot {l : List UInt8} {i j : Nat} (h : l ≠ []) (hi : i ≤ l.length) (hj : j ≤ l.length) : rot (rot l i) j = rot l ((i + j) % l.length) := by
  have hl : 0 < l.length := List.length_pos_iff.2 h
  refine List.ext_getElem? fun x => ?_
  by_cases hx : x < l.length
  · rw [rot_get (by rw [rot_len]; exact hj) (by rw [rot_len]; exact hx), rot_len, rot_get hi (Nat.mod_lt _ hl), rot_get (Nat.le_of_lt (Nat.mod_lt _ hl)) hx]
    congr 1
    rw [Nat.mod_add_mod, Nat.add_mod_mod]
    congr 1; omega
  · rw [List.getElem?_eq_none (by rw [rot_len, rot_len]; omega), List.getElem?_eq_none (by rw [rot_len]; omega)]
def Turned (l m : List UInt8) : Prop := ∃ i, i ≤ l.length ∧ m = rot l i
theorem Turned.symm {l m : List UInt8} (h : Turned l m) : Turned m l := by
  obtain ⟨i, hi, rfl⟩ := h
  by_cases h : l = []
  · subst h; exact ⟨0, by simp, by simp [rot]⟩
  · refine ⟨l.length - i, by rw [rot_len]; omega, ?_⟩
    rw [rot_rot h hi (by omega), show i + (l.length - i) = l.length by omega, Nat.mod_self, rot_zero]
theorem Turned.trans {l m k : List UInt8} (h1 : Turned l m) (h2 : Turned m k) : Turned l k := by
  obtain ⟨i, hi, rfl⟩ := h1
  obtain ⟨j, hj, rfl⟩ := h2
  rw [rot_len] at hj
  by_cases h : l = []
  · subst h; exact ⟨0, by simp, by simp [rot]⟩
  · have hl : 0 < l.length := List.length_pos_iff.2 h
    exact ⟨(i + j) % l.length, Nat.le_of_lt (Nat.mod_lt _ hl), rot_rot h hi hj⟩
theorem Turned.refl {l : List UInt8} : Turned l l := ⟨0, Nat.zero_le _, rot_zero.symm⟩
def fstN (l : List UInt8) : List UInt8 := leastOf ((List.range l.length).map (rot l)) l
theorem fstN_turned {l : List UInt8} : Turned l (fstN l) := by
  rcases (leastOf_spec ((List.range l.length).map (rot l)) l).1 with h | h
  · unfold fstN; rw [h]; exact Turned.refl
  · obtain ⟨i, hi, e⟩ := List.mem_map.1 h
    exact ⟨i, by simp at hi; omega, e.symm⟩
theorem fstN_least {l m : List UInt8} (h : Turned l m) : ¬ m < fstN l := by
  obtain ⟨hs1, hs2, hs3⟩ := leastOf_spec ((List.range l.length).map (rot l)) l
  obtain ⟨i, hi, rfl⟩ := h
  by_cases he : i = l.length
  · subst he; rw [rot_full]; exact hs3
  · exact hs2 _ (List.mem_map.2 ⟨i, by simp; omega, rfl⟩)
theorem fstN_eq {l m : List UInt8} : fstN l = fstN m ↔ Turned l m := by
  constructor
  · intro h
    exact (h ▸ fstN_turned (l := l)).trans (fstN_turned (l := m)).symm
  · intro h
    exact lex_tri (fstN_least (h.symm.trans fstN_turned)) (fstN_least (h.trans fstN_turned))
theorem addS_rot {l : List UInt8} {i : Nat} (hl : l.length ≤ 1000) : addS (strC (l.drop i)) (strC (l.take i)) = some (strC (rot l i)) := addS_L (by simp; omega)
theorem sub_end {l : List UInt8} {i : Nat} (hi : i ≤ l.length) : subS (strC l) (i : Int) (l.length : Int) = some (strC (l.drop i)) := by
  rw [subS_L hi (Nat.le_refl _), List.take_length]
theorem sub_start {l : List UInt8} {i : Nat} (hi : i ≤ l.length) : subS (strC l) 0 (i : Int) = some (strC (l.take i)) := by
  have := subS_L (l := l) (a := 0) (b := i) (by omega) hi
  simpa using this
theorem foldl_least {l : List UInt8} (L : List Nat) (o : List UInt8) : L.foldl (fun o i => if rot l i < o then rot l i else o) o = leastOf (L.map (rot l)) o := by
  unfold leastOf; rw [List.foldl_map]
theorem f29_eq {l : List UInt8} {N : Nat} (hN : 30 ≤ N) : f29 N (strC l) = some (if chk8 l = 0 then (strC (fstN l), 0) else (emptyS, chk8 l)) := by
  unfold f29
  rw [f23_eq hN]
  by_cases h : chk8 l = 0
  · have := chk8_len h
    simp only [Option.bind_some, h, not_true, decide_false, cond_false, if_true, joinK]
    have := (loop_inv0 (F := fun n (o : List UInt8) i => f29_6 (strC l) f29_c10 n (strC o) i) (k := fun o => f29_c10 (strC o)) (fun o i => if rot l i < o then rot l i else o) (fun _ _ => True) l.length
      (fun n s i hi _ => by
        conv => lhs; unfold f29_6 f29_6b
        simp only [strC_size, show (i : Int) < (l.length : Int) by omega, decide_true, cond_true]
        rw [sub_end (by omega), sub_start (by omega)]
        simp only [Option.bind_some]
        rw [addS_rot (by omega)]
        simp only [Option.bind_some, minS, strLt_L, decide_eq_true_eq]
        rw [W_nat (by omega)]
        by_cases hh : rot l i < s <;> simp only [hh, if_true, if_false])
      (fun _ _ _ _ => trivial)
      (fun n s => by
        conv => lhs; unfold f29_6 f29_6b
        simp only [strC_size, Int.lt_irrefl, decide_false, cond_false]) (n := N) (s := l) (by omega) trivial).1
    rw [this, foldl_least]
    rfl
  · simp [h]
theorem contains_iff {s t : List UInt8} : Lib.contains s t = true ↔ ∃ i, i ≤ s.length ∧ Lib.occAt s t i = true := by
  unfold Lib.contains
  rw [decide_eq_true_eq]
  constructor
  · intro h
    rcases Lib.index_spec s t with ⟨h1, _⟩ | ⟨i, h1, h2, h3, _⟩
    · omega
    · exact ⟨i, by assumption, by assumption⟩
  · rintro ⟨i, hi, ho⟩
    rcases Lib.index_spec s t with ⟨h1, h2⟩ | ⟨i, h1, h2, h3, _⟩
    · have := h2 i hi
      rw [this] at ho; cases ho
    · omega
theorem contains_turned {l m : List UInt8} (h : l.length = m.length) : Lib.contains (l ++ l) m = true ↔ Turned l m := by
  rw [contains_iff]
  have key : ∀ i, i ≤ l.length → ((l ++ l).drop i).take l.length = rot l i := by
    intro i hi
    unfold rot
    rw [List.drop_append_of_le_length hi, List.take_append]
    congr 1
    · rw [List.take_of_length_le (by simp)]
    · congr 1
      simp; omega
  constructor
  · rintro ⟨i, hi, ho⟩
    unfold Lib.occAt at ho
    rw [List.isPrefixOf_iff_prefix] at ho
    by_cases hil : i ≤ l.length
    · refine ⟨i, hil, ?_⟩
      rw [List.prefix_iff_eq_take] at ho
      rw [ho, ← h, key i hil]
    · have := ho.length_le
      simp at this hi
      omega
  · rintro ⟨i, hi, rfl⟩
    refine ⟨i, by simp; omega, ?_⟩
    unfold Lib.occAt
    rw [List.isPrefixOf_iff_prefix, List.prefix_iff_eq_take, rot_len, key i hi]
theorem f56_eq {a b : List UInt8} {N : Nat} (ha : a.length ≤ 1000) : f56 N (strC a) (strC b) = some (Lib.contains a b) := by
  unfold f56
  rw [strC_toList, strC_toList, if_pos (by simpa using ha)]
open Classical in
noncomputable def sameR (l m : List UInt8) : Bool × Int := if chk8 l ≠ 0 then (false, chk8 l) else if chk8 m ≠ 0 then (false, chk8 m) else (decide (Turned l m), 0)
open Classical in
theorem f31_eq {l m : List UInt8} {N : Nat} (hN : 30 ≤ N) : f31 N (strC l) (strC m) = some (sameR l m) := by
  unfold f31
  obtain ⟨k, rfl⟩ : ∃ k, N = k + 3 := ⟨N - 3, by omega⟩
  simp only [joinK]
  unfold f31_2 f31_2b
  have i0 : ix [strC l, strC m] 0 = some (strC l) := rfl
  have i1 : ix [strC l, strC m] 1 = some (strC m) := rfl
  have w0 : W ((0 : Int) + 1) = 1 := by decide
  have w1 : W ((1 : Int) + 1) = 2 := by decide
  simp only [List.length_cons, List.length_nil, i0, Option.bind_some, f23_eq hN, w0]
  unfold sameR
  by_cases h1 : chk8 l = 0
  · simp only [h1, ne_eq, not_true, if_false, decide_false, cond_false]
    unfold f31_2 f31_2b
    simp only [List.length_cons, List.length_nil, i1, Option.bind_some, f23_eq hN, w1]
    by_cases h2 : chk8 m = 0
    · simp only [h2, ne_eq, not_true, if_false, decide_false, cond_false]
      unfold f31_2 f31_2b
      simp only [List.length_cons, List.length_nil]
      unfold f31_c8
      have l1 := chk8_len h1
      have l2 := chk8_len h2
      by_cases hl : l.length = m.length
      · simp only [strC_size, hl, decide_true, cond_true]
        rw [addS_L (by omega), Option.bind_some, f56_eq (by simp; omega), Option.bind_some]
        by_cases ht : Turned l m
        · rw [(contains_turned hl).2 ht, decide_eq_true ht]; rfl
        · rw [decide_eq_false ht]
          have : Lib.contains (l ++ l) m = false := by
            rw [Bool.eq_false_iff]; exact fun h => ht ((contains_turned hl).1 h)
          rw [this]; rfl
      · simp only [strC_size, show ¬ (l.length : Int) = (m.length : Int) by omega, decide_false, cond_false]
        have ht : ¬ Turned l m := by
          rintro ⟨i, _, rfl⟩
          exact hl rot_len.symm
        rw [decide_eq_false ht]; rfl
    · simp [h2]
  · simp [h1]
end Go.Vc
namespace Go.Vc
open Go.Proofs
set_option linter.unusedVariables false
set_option linter.unnecessarySimpa false
set_option linter.unusedSimpArgs false
set_option linter.unusedSimpArgs false
def occ (l : List UInt8) (k i : Nat) : Prop := i + k ≤ l.length ∧ (l.take (i + k)).drop i = l.take k
def Cov (l : List UInt8) (k : Nat) : Prop := ∀ y, y < l.length → ∃ i, i ≤ y ∧ y < i + k ∧ occ l k i
open Classical in
noncomputable def cov (l : List UInt8) (k : Nat) : Bool := decide (Cov l k)
open Classical in
noncomputable def covN (l : List UInt8) : List Nat := (List.range' 1 l.length).filter (cov l)
theorem occ_zero {l : List UInt8} {k : Nat} (h : k ≤ l.length) : occ l k 0 := ⟨by omega, by simp⟩
open Classical in
theorem cov_eq {l : List UInt8} {k : Nat} {b : Bool} (h : b = true ↔ Cov l k) : b = cov l k := by
  unfold cov
  cases b with
  | true => exact (decide_eq_true (h.1 rfl)).symm
  | false => exact (decide_eq_false fun hh => by cases h.2 hh).symm
theorem occAt_window {l : List UInt8} {k m i : Nat} (hk : k ≤ l.length) (hm : m ≤ l.length) (hi : i + k ≤ m) : Lib.occAt (l.take m) (l.take k) i = true ↔ occ l k i := by
  unfold Lib.occAt occ
  rw [List.isPrefixOf_iff_prefix, List.prefix_iff_eq_take]
  have hl : (l.take k).length = k := by simp; omega
  rw [hl]
  have : (List.drop i (l.take m)).take k = (l.take (i + k)).drop i := by
    rw [List.take_drop, List.take_take, show min (i + k) m = i + k by omega]
  rw [this]
  constructor
  · intro h; exact ⟨by omega, h.symm⟩
  · rintro ⟨_, h⟩; exact h.symm
theorem last_spec {l : List UInt8} {k m : Nat} (hk : k ≤ l.length) (hm : m ≤ l.length) (hkm : k ≤ m) :
    ∃ i : Nat, Lib.lastIndex (l.take m) (l.take k) = i ∧ i + k ≤ m ∧ occ l k i ∧ ∀ j, i < j → j + k ≤ m → ¬ occ l k j := by
  have h1 : (l.take m).length = m := by simp; omega
  have h2 : (l.take k).length = k := by simp; omega
  unfold Lib.lastIndex
  rw [h1, h2, if_pos hkm]
  rcases Lib.lastOcc_spec (l.take m) (l.take k) (m - k + 1) with ⟨_, hn⟩ | ⟨i, hi, e, hc, hn⟩
  · have := hn 0 (by omega)
    rw [Bool.eq_false_iff] at this
    exact absurd ((occAt_window hk hm (by omega)).2 (occ_zero hk)) this
  · refine ⟨i, e, by omega, (occAt_window hk hm (by omega)).1 hc, fun j h3 h4 ho => ?_⟩
    have := hn j h3 (by omega)
    rw [Bool.eq_false_iff] at this
    exact this ((occAt_window hk hm h4).2 ho)
theorem f70_eq {a b : List UInt8} {N : Nat} (ha : a.length ≤ 1000) (h : -1 ≤ Lib.lastIndex a b ∧ Lib.lastIndex a b ≤ 1000) : f70 N (strC a) (strC b) = some (Lib.lastIndex a b) := by
  unfold f70
  rw [strC_toList, strC_toList]
  exact if_pos ⟨h.1, h.2, by simpa using ha⟩
theorem f51_loop {l : List UInt8} {k N : Nat} (hl : l.length ≤ 100) (h1 : 1 ≤ k) (hk : k ≤ l.length) : ∀ (n t : Nat), t ≤ l.length → l.length - t < n → (∀ y, y < t → ∃ i, i ≤ y ∧ y < i + k ∧ occ l k i) →
    f51_2 (strC l) (k : Int) N f51_c7 n (t : Int) = some (cov l k) := by
  intro n
  induction n with
  | zero => intro t _ h; omega
  | succ n ih =>
    intro t ht hn hA
    unfold f51_2 f51_2b
    by_cases he : t < l.length
    · simp only [strC_size, show (t : Int) < (l.length : Int) by omega, decide_true, cond_true]
      rw [show ((t : Int) + (k : Int)) = ((t + k : Nat) : Int) by omega, W_of (by omega) (by omega)]
      rw [show (min ((t + k : Nat) : Int) (l.length : Int)) = ((min (t + k) l.length : Nat) : Int) by omega]
      have s1 := subS_L (l := l) (a := 0) (b := min (t + k) l.length) (by omega) (by omega)
      have s2 := subS_L (l := l) (a := 0) (b := k) (by omega) (by omega)
      rw [show ((0 : Nat) : Int) = 0 from rfl] at s1 s2
      rw [s1, s2]
      simp only [Option.bind_some, List.drop_zero]
      obtain ⟨i, e, hi, ho, hno⟩ := last_spec (l := l) (k := k) (m := min (t + k) l.length) hk (by omega) (by omega)
      rw [f70_eq (by simp; omega) (by rw [e]; omega), e, Option.bind_some]
      rw [show ((i : Int) + (k : Int)) = ((i + k : Nat) : Int) by omega, W_of (by omega) (by omega)]
      by_cases hc : i + k ≤ t
      · simp only [show ((i + k : Nat) : Int) ≤ (t : Int) by omega, decide_true, cond_true]
        congr 1
        refine cov_eq ⟨fun h => (by cases h), fun h => ?_⟩
        obtain ⟨j, j1, j2, j3⟩ := h t he
        have := j3.1
        by_cases hj : i < j
        · exact absurd j3 (hno j hj (by omega))
        · omega
      · simp only [show ¬ ((i + k : Nat) : Int) ≤ (t : Int) by omega, decide_false, cond_false]
        refine ih (i + k) (by omega) (by omega) fun y hy => ?_
        by_cases hyt : y < t
        · exact hA y hyt
        · exact ⟨i, by omega, hy, ho⟩
    · have : t = l.length := by omega
      subst this
      simp only [strC_size, Int.lt_irrefl, decide_false, cond_false]
      show some true = _
      congr 1
      exact cov_eq ⟨fun _ => hA, fun _ => rfl⟩
theorem f51_eq {l : List UInt8} {k N : Nat} (hl : l.length ≤ 100) (h1 : 1 ≤ k) (hk : k ≤ l.length) (hN : l.length < N) : f51 N (strC l) (k : Int) = some (cov l k) := by
  unfold f51
  simp only [joinK]
  exact f51_loop hl h1 hk N 0 (by omega) (by omega) fun y hy => by omega
theorem f20_eq {l : List UInt8} {N : Nat} (hN : 30 ≤ N) : f20 N (strC l) = some (if chk8 l = 0 then (toI (covN l), 0) else ([], chk8 l)) := by
  unfold f20
  rw [f23_eq hN]
  by_cases h : chk8 l = 0
  · have := chk8_len h
    simp only [Option.bind_some, h, not_true, decide_false, cond_false, if_true, joinK]
    rw [gather_loop (F := f20_6 (strC l) N f20_c10) (k := f20_c10) (p := cov l) l.length]
    · rfl
    · intro n s i h1 h2 h3
      conv => lhs; unfold f20_6 f20_6b
      simp only [strC_size, show (i : Int) ≤ (l.length : Int) by omega, decide_true, cond_true]
      rw [f51_eq (by omega) h1 h2 (by omega)]
      simp only [Option.bind_some]
      by_cases hp : cov l i = true
      · simp only [hp, cond_true, if_true]
        rw [app_int (by omega), Option.bind_some, W_nat (by omega)]
      · simp only [Bool.not_eq_true] at hp
        simp only [hp, cond_false]
        rw [W_nat (by omega)]; rfl
    · intro n s
      conv => lhs; unfold f20_6 f20_6b
      rw [decide_eq_false (by simp; omega)]; rfl
    · omega
  · simp [h]
theorem covN_len {l : List UInt8} : (covN l).length ≤ l.length := Nat.le_trans (List.length_filter_le _ _) (by simp)
end Go.Vc
namespace Go.Vc
open Go.Proofs
set_option linter.unusedVariables false
set_option linter.unnecessarySimpa false
set_option linter.unusedSimpArgs false
end Go.Vc
namespace Go.Vc
open Go.Proofs
set_option linter.unusedVariables false
set_option linter.unnecessarySimpa false
set_option linter.unusedSimpArgs false
end Go.Vc
namespace Go.Vc
open Go.Proofs
set_option linter.unusedVariables false
set_option linter.unnecessarySimpa false
set_option linter.unusedSimpArgs false
set_option linter.unusedSimpArgs false
def Per {α : Type} (f : Nat → α) (n p : Nat) : Prop := ∀ i, i + p < n → f i = f (i + p)
section
variable {α : Type} {f : Nat → α}
theorem Per.mul {n p : Nat} (h : Per f n p) : ∀ m, Per f n (m * p) := by
  intro m
  induction m with
  | zero => intro i hi; simp
  | succ m ih =>
    intro i hi
    rw [Nat.succ_mul] at hi ⊢
    rw [ih i (by omega), h (i + m * p) (by omega)]
    congr 1
    omega
theorem Per.dvd {n p q : Nat} (h : Per f n p) (hd : p ∣ q) : Per f n q := by
  obtain ⟨m, rfl⟩ := hd
  rw [Nat.mul_comm]
  exact h.mul m
theorem Per.less {n m p : Nat} (h : Per f n p) (hm : m ≤ n) : Per f m p := fun i hi => h i (by omega)
theorem Per.grow {n p g : Nat} (hg : 1 ≤ g) (hd : g ∣ p) (hp : 1 ≤ p) (hn : 2 * p ≤ n) (h : Per f n p) (h' : Per f (n - p) g) : Per f n g := by
  have hgp : g ≤ p := Nat.le_of_dvd hp hd
  intro i hi
  by_cases h1 : i + g < n - p
  · exact h' i h1
  · have e1 : f (i + g) = f (i + g - p) := by
      have := h (i + g - p) (by omega)
      rw [this]; congr 1; omega
    rw [e1]
    by_cases h2 : p ≤ i
    · have e2 : f i = f (i - p) := by
        have := h (i - p) (by omega)
        rw [this]; congr 1; omega
      rw [e2, h' (i - p) (by omega)]
      congr 1; omega
    · have hd2 : g ∣ p - g := Nat.dvd_sub hd (Nat.dvd_refl g)
      have := h'.dvd hd2 (i + g - p) (by omega)
      rw [this]
      congr 1; omega
theorem fine_wilf : ∀ (s n p q : Nat), p + q ≤ s → 1 ≤ p → 1 ≤ q → p + q - Nat.gcd p q ≤ n → Per f n p → Per f n q → Per f n (Nat.gcd p q) := by
  intro s
  induction s with
  | zero => intro n p q h h1 h2; omega
  | succ s ih =>
    intro n p q hs hp hq hn h1 h2
    have core : ∀ p q : Nat, p + q ≤ s + 1 → 1 ≤ p → p < q → p + q - Nat.gcd p q ≤ n → Per f n p → Per f n q → Per f n (Nat.gcd p q) := by
      intro p q hs hp hpq hn h1 h2
      have hg : Nat.gcd p (q - p) = Nat.gcd p q := by
        rw [Nat.gcd_comm, Nat.gcd_comm p q]
        have := Nat.gcd_sub_self_left (m := p) (n := q) (Nat.le_of_lt hpq)
        exact this
      have hgd : Nat.gcd p q ∣ q - p := by rw [← hg]; exact Nat.gcd_dvd_right _ _
      have hgp : Nat.gcd p q ∣ p := Nat.gcd_dvd_left _ _
      have hgle : Nat.gcd p q ≤ q - p := Nat.le_of_dvd (by omega) hgd
      have hg1 : 1 ≤ Nat.gcd p q := Nat.gcd_pos_of_pos_left _ hp
      have hper : Per f (n - p) (q - p) := by
        intro i hi
        have e1 := h2 i (by omega)
        have e2 := h1 (i + (q - p)) (by omega)
        rw [e1, e2]; congr 1; omega
      have := ih (n - p) p (q - p) (by omega) hp (by omega) (by rw [hg]; omega) (h1.less (by omega)) hper
      rw [hg] at this
      exact Per.grow hg1 hgp hp (by omega) h1 this
    rcases Nat.lt_trichotomy p q with h | h | h
    · exact core p q hs hp h hn h1 h2
    · subst h; rw [Nat.gcd_self]; exact h1
    · rw [Nat.gcd_comm]
      exact core q p (by omega) hq h (by rw [Nat.gcd_comm, Nat.add_comm]; exact hn) h2 h1
end
theorem isP_per {l : List UInt8} {p : Nat} : isP l p = true ↔ Per (fun i => l[i]?) l.length p := by
  rw [isP_iff]
  constructor
  · intro h i hi
    simp only
    rw [List.getElem?_eq_getElem (by omega), List.getElem?_eq_getElem hi, h i hi]
  · intro h i hi
    have := h i hi
    simp only at this
    rw [List.getElem?_eq_getElem (by omega), List.getElem?_eq_getElem hi] at this
    exact Option.some.inj this
def Abc (l : List UInt8) : Prop := ∀ b ∈ l, b = 97 ∨ b = 98 ∨ b = 99
theorem all_lo {l : List UInt8} (h : l.all okb = true) (i : Nat) (hi : i < l.length) : l[i].toNat < 128 := by
  have := List.all_eq_true.1 h l[i] (List.getElem_mem hi)
  simp [okb] at this
  omega
theorem sub_end' {l : List UInt8} {i : Nat} (hi : i ≤ l.length) : subS (strC l) (i : Int) (l.length : Int) = some (strC (l.drop i)) := by
  rw [subS_L hi (Nat.le_refl _), List.take_length]
theorem abc_sub {x : Int} (h : 0 ≤ x) : ∃ b : UInt8, (b = 97 ∨ b = 98 ∨ b = 99) ∧ ((subS (strC [97, 98, 99]) (Int.tmod x 3) ((strC [97, 98, 99]).size : Int)).bind fun y => subS y 0 1) = some (strC [b]) := by
  obtain ⟨m, rfl⟩ : ∃ m : Nat, x = m := ⟨x.toNat, by omega⟩
  have e : Int.tmod (m : Int) 3 = ((m % 3 : Nat) : Int) := rfl
  rw [e]
  have h3 : m % 3 < 3 := Nat.mod_lt _ (by omega)
  rcases (by omega : m % 3 = 0 ∨ m % 3 = 1 ∨ m % 3 = 2) with h | h | h <;> rw [h]
  · exact ⟨97, by simp, rfl⟩
  · exact ⟨98, by simp, rfl⟩
  · exact ⟨99, by simp, rfl⟩
theorem bind2 {α β γ : Type} {x : Option α} {f : α → Option β} {g : β → Option γ} {y : β} (h : x.bind f = some y) : (x.bind fun a => (f a).bind g) = g y := by
  cases x with
  | none => cases h
  | some a =>
    simp only [Option.bind_some] at h ⊢
    rw [h]; rfl
theorem Abc.snoc {l : List UInt8} {b : UInt8} (h : Abc l) (hb : b = 97 ∨ b = 98 ∨ b = 99) : Abc (l ++ [b]) := by
  intro x hx
  rcases List.mem_append.1 hx with hx | hx
  · exact h x hx
  · rw [List.mem_singleton.1 hx]; exact hb
theorem f41_loop {w : List Int} {m : Nat} (hm : 1 ≤ m) (hm2 : m ≤ 100) (hw : ∀ x ∈ w, 0 ≤ x) : ∀ (n i : Nat) (l : List UInt8), l.length ≤ m → Abc l → m - l.length < n → i ≤ w.length → i ≤ l.length →
    ∃ l', f41_3 w (m : Int) f41_c9 n (strC l) (i : Int) = some (strC l') ∧ 1 ≤ l'.length ∧ l'.length ≤ m ∧ Abc l' := by
  have fin : ∀ l : List UInt8, l.length ≤ m → Abc l → ∃ l', f41_c9 (strC l) = some (strC l') ∧ 1 ≤ l'.length ∧ l'.length ≤ m ∧ Abc l' := by
    intro l h1 h2
    unfold f41_c9
    by_cases h : l = []
    · subst h
      exact ⟨[97], by simp [emptyS_eq], by simp, by simpa using hm, by intro b hb; simp at hb; simp [hb]⟩
    · exact ⟨l, by simp [emptyS_eq, strC_inj, h], List.length_pos_iff.2 h, h1, h2⟩
  intro n
  induction n with
  | zero => intro i l _ _ h; omega
  | succ n ih =>
    intro i l hl ha hn hi hil
    unfold f41_3 f41_3b
    by_cases h : i < w.length
    · simp only [show (i : Int) < (w.length : Int) by omega, decide_true, cond_true]
      by_cases h2 : l.length < m
      · simp only [strC_size, show (l.length : Int) < (m : Int) by omega, decide_true, cond_true, ix_get h, Option.bind_some]
        have hx := hw w[i] (List.getElem_mem h)
        rw [W_nat (by omega)]
        have plain : ∃ l', (((subS (strC [97, 98, 99]) (Int.tmod w[i] 3) ((strC [97, 98, 99]).size : Int)).bind fun x8 => (subS x8 0 1).bind fun x9 => (addS (strC l) x9).bind fun x10 => f41_3 w (m : Int) f41_c9 n x10 ((i + 1 : Nat) : Int))) = some (strC l') ∧ 1 ≤ l'.length ∧ l'.length ≤ m ∧ Abc l' := by
          obtain ⟨b, hb, e⟩ := abc_sub hx
          rw [bind2 e, addS_L (by simp; omega), Option.bind_some]
          exact ih (i + 1) (l ++ [b]) (by simp; omega) (ha.snoc hb) (by simp; omega) (by omega) (by simp; omega)
        simp only [strC_size] at plain
        by_cases h3 : (128 : Int) ≤ w[i]
        · simp only [h3, decide_true, cond_true]
          by_cases h4 : l = []
          · subst h4
            simp only [List.length_nil]
            exact plain
          · have h5 := List.length_pos_iff.2 h4
            have : decide ((l.length : Int) ≠ 0) = true := decide_eq_true (by omega)
            simp only [show (0 : Int) < (l.length : Int) by omega, decide_true, cond_true, this, chk, Option.bind_some]
            obtain ⟨x, hx'⟩ : ∃ x : Nat, w[i] = x := ⟨w[i].toNat, by omega⟩
            rw [hx']
            have ht : Int.tmod (x : Int) (l.length : Int) = ((x % l.length : Nat) : Int) := rfl
            have hlt := Nat.mod_lt x h5
            rw [ht]
            generalize hq : x % l.length = q at *
            rw [show (l.length : Int) - 1 = ((l.length - 1 : Nat) : Int) by omega, W_of (n := ((l.length - 1 : Nat) : Int)) (by omega) (by omega), show ((l.length - 1 : Nat) : Int) - (q : Int) = ((l.length - 1 - q : Nat) : Int) by omega, W_of (by omega) (by omega), sub_end' (by omega), Option.bind_some]
            have s1 := subS_L (l := l.drop (l.length - 1 - q)) (a := 0) (b := 1) (by omega) (by simp; omega)
            rw [show ((0 : Nat) : Int) = 0 from rfl, show ((1 : Nat) : Int) = 1 from rfl] at s1
            rw [s1, Option.bind_some, List.drop_zero, List.drop_eq_getElem_cons (by omega)]
            simp only [List.take_succ_cons, List.take_zero]
            rw [addS_L (by simp; omega), Option.bind_some]
            exact ih (i + 1) _ (by simp; omega) (ha.snoc (ha _ (List.getElem_mem _))) (by simp; omega) (by omega) (by simp; omega)
        · simp only [h3, decide_false, cond_false]
          exact plain
      · simp only [strC_size, show ¬ (l.length : Int) < (m : Int) by omega, decide_false, cond_false]
        exact fin l hl ha
    · simp only [show ¬ (i : Int) < (w.length : Int) by omega, decide_false, cond_false]
      exact fin l hl ha
theorem f41_eq {w : List Int} {m N : Nat} (hm : 1 ≤ m) (hm2 : m ≤ 100) (hw : ∀ x ∈ w, 0 ≤ x) (hN : m < N) : ∃ l, f41 N w (m : Int) = some (strC l) ∧ 1 ≤ l.length ∧ l.length ≤ m ∧ Abc l := by
  unfold f41
  simp only [joinK, emptyS_eq]
  exact f41_loop hm hm2 hw N 0 [] (by simp) (by intro b hb; cases hb) (by simp; omega) (by omega) (by simp)
theorem Abc.ok {l : List UInt8} (h : Abc l) : l.all okb = true := by
  rw [List.all_eq_true]
  intro b hb
  rcases h b hb with rfl | rfl | rfl <;> decide
theorem Abc.chk {l : List UInt8} (h : Abc l) (h1 : 1 ≤ l.length) (h2 : l.length ≤ 24) : chk8 l = 0 :=
  chk8_zero.2 ⟨by rintro rfl; simp at h1, h2, h.ok⟩
end Go.Vc
namespace Go.Vc
open Go.Proofs
set_option maxRecDepth 100000
theorem t15 : f15 60 = some true := by decide +kernel
end Go.Vc
namespace Go.Vc
open Go.Proofs
set_option linter.unusedVariables false
set_option linter.unnecessarySimpa false
set_option linter.unusedSimpArgs false
end Go.Vc
namespace Go.Vc
open Go.Proofs
set_option linter.unusedVariables false
set_option linter.unnecessarySimpa false
set_option linter.unusedSimpArgs false
set_option linter.unusedSimpArgs false
end Go.Vc
namespace Go.Vc
open Go.Proofs
set_option linter.unusedVariables false
set_option linter.unnecessarySimpa false
set_option linter.unusedSimpArgs false
set_option linter.unusedSimpArgs false
theorem get?_lt {l : List UInt8} {m : List UInt8} (hlen : l.length = m.length) (h : ∀ x, x < l.length → l[x]? = m[x]?) : l = m := by
  refine List.ext_getElem? fun x => ?_
  by_cases hx : x < l.length
  · exact h x hx
  · rw [List.getElem?_eq_none (by omega), List.getElem?_eq_none (by omega)]
theorem rot_per {l : List UInt8} {p : Nat} (h1 : 1 ≤ p) (hp : p ≤ l.length) (hd : l.length % p = 0) : rot l p = l ↔ isP l p = true := by
  rw [isP_per]
  constructor
  · intro h i hi
    have := rot_get hp (show i < l.length by omega)
    rw [h, Nat.mod_eq_of_lt hi] at this
    exact this
  · intro h
    refine get?_lt rot_len fun x hx => ?_
    rw [rot_len] at hx
    rw [rot_get hp hx]
    by_cases hxp : x + p < l.length
    · rw [Nat.mod_eq_of_lt hxp]
      exact (h x hxp).symm
    · rw [Nat.mod_eq_sub_mod (by omega), Nat.mod_eq_of_lt (by omega)]
      have hdd : p ∣ l.length - p := Nat.dvd_sub (Nat.dvd_of_mod_eq_zero hd) (Nat.dvd_refl p)
      have := h.dvd hdd (x + p - l.length) (by omega)
      simp only at this
      rw [this]; congr 1; omega
theorem rot_comm {l : List UInt8} {i j : Nat} (h : l ≠ []) (hi : i ≤ l.length) (hj : j ≤ l.length) : rot (rot l i) j = rot (rot l j) i := by
  rw [rot_rot h hi hj, rot_rot h hj hi, Nat.add_comm]
theorem rot_ne {l : List UInt8} {i : Nat} (h : l ≠ []) : rot l i ≠ [] := by
  intro hh
  have := congrArg List.length hh
  rw [rot_len] at this
  exact h (List.length_eq_zero_iff.1 (by simpa using this))
theorem per_turned {l m : List UInt8} (hne : l ≠ []) (ht : Turned l m) {p : Nat} (h1 : 1 ≤ p) (hd : l.length % p = 0) (h : isP l p = true) : isP m p = true := by
  obtain ⟨i, hi, rfl⟩ := ht
  have hp : p ≤ l.length := Nat.le_of_dvd (List.length_pos_iff.2 hne) (Nat.dvd_of_mod_eq_zero hd)
  refine (rot_per h1 (by rw [rot_len]; exact hp) (by rw [rot_len]; exact hd)).1 ?_
  rw [rot_comm hne hi hp, (rot_per h1 hp hd).2 h]
theorem turned_len {l m : List UInt8} (h : Turned l m) : m.length = l.length := by
  obtain ⟨i, _, rfl⟩ := h; exact rot_len
theorem root_turned {l m : List UInt8} (hne : l ≠ []) (ht : Turned l m) : rootN m = rootN l := by
  obtain ⟨r1, r2, r3, r4, r5⟩ := rootN_spec hne
  have hlen := turned_len ht
  have hne' : m ≠ [] := by
    rintro rfl
    simp at hlen
    exact hne (List.length_eq_zero_iff.1 hlen.symm)
  refine (rootN_uniq hne' r1 (by rw [hlen]; exact r3) (per_turned hne ht r1 r3 r4) fun q q1 q2 hq => ?_).symm
  exact r5 q q1 q2 ⟨by rw [← hlen]; exact hq.1, per_turned hne' ht.symm q1 hq.1 hq.2⟩
theorem rot_mod {l : List UInt8} (hne : l ≠ []) : ∀ {j : Nat}, j ≤ l.length → rot l j = rot l (j % rootN l) := by
  obtain ⟨r1, r2, r3, r4, r5⟩ := rootN_spec hne
  have hr := (rot_per r1 r2 r3).2 r4
  intro j
  induction j using Nat.strongRecOn with
  | _ j ih =>
    intro hj
    by_cases h : j < rootN l
    · rw [Nat.mod_eq_of_lt h]
    · rw [Nat.mod_eq_sub_mod (by omega), ← ih (j - rootN l) (by omega) (by omega)]
      have e := rot_rot hne r2 (show j - rootN l ≤ l.length by omega)
      rw [hr, show rootN l + (j - rootN l) = j by omega] at e
      rw [e]
      by_cases hjl : j = l.length
      · subst hjl; rw [Nat.mod_self, rot_full, rot_zero]
      · rw [Nat.mod_eq_of_lt (by omega)]
theorem rot_inj {l : List UInt8} (hne : l ≠ []) {i j : Nat} (hij : i < j) (hj : j < rootN l) : rot l i ≠ rot l j := by
  obtain ⟨r1, r2, r3, r4, r5⟩ := rootN_spec hne
  have h0 := List.length_pos_iff.2 hne
  intro h
  -- turned by the difference it remains
  have hd : rot l (j - i) = l := by
    have e1 := rot_rot hne (show i ≤ l.length by omega) (show l.length - i ≤ l.length by omega)
    have e2 := rot_rot hne (show j ≤ l.length by omega) (show l.length - i ≤ l.length by omega)
    rw [show i + (l.length - i) = l.length by omega, Nat.mod_self, rot_zero] at e1
    rw [show j + (l.length - i) = (j - i) + l.length by omega, Nat.add_mod_right, Nat.mod_eq_of_lt (by omega), ← h, e1] at e2
    exact e2.symm
  generalize hk : j - i = k at hd
  have k1 : 1 ≤ k := by omega
  have kl : k < l.length := by omega
  -- so have all numbers
  let f : Nat → Option UInt8 := fun x => l[x % l.length]?
  have p1 : Per f (k + l.length) l.length := fun x hx => by
    show l[x % l.length]? = l[(x + l.length) % l.length]?
    rw [Nat.add_mod_right]
  have p2 : Per f (k + l.length) k := fun x hx => by
    show l[x % l.length]? = l[(x + k) % l.length]?
    have := rot_get (l := l) (i := k) (x := x % l.length) (by omega) (Nat.mod_lt _ h0)
    rw [hd, Nat.mod_add_mod] at this
    exact this
  have g1 : 1 ≤ Nat.gcd k l.length := Nat.gcd_pos_of_pos_left _ k1
  have g2 : Nat.gcd k l.length ≤ k := Nat.gcd_le_left _ k1
  have hg := fine_wilf (k + l.length) (k + l.length) k l.length (Nat.le_refl _) k1 h0 (by omega) p2 p1
  refine r5 _ g1 (by omega) ⟨Nat.mod_eq_zero_of_dvd (Nat.gcd_dvd_right _ _), ?_⟩
  rw [isP_per]
  intro x hx
  have := hg x (by omega)
  simp only [f] at this
  rw [Nat.mod_eq_of_lt (by omega), Nat.mod_eq_of_lt hx] at this
  exact this
theorem per_rev {l : List UInt8} {p : Nat} (h : isP l p = true) : isP l.reverse p = true := by
  rw [isP_per] at h ⊢
  intro i hi
  rw [List.length_reverse] at hi
  simp only
  rw [List.getElem?_reverse (by omega), List.getElem?_reverse hi]
  have := h (l.length - 1 - (i + p)) (by omega)
  simp only at this
  rw [this]; congr 1; omega
theorem isP_rev {l : List UInt8} {p : Nat} : isP l.reverse p = isP l p := by
  cases h : isP l p with
  | true => exact per_rev h
  | false =>
    cases h' : isP l.reverse p with
    | false => rfl
    | true =>
      have := per_rev h'
      rw [List.reverse_reverse, h] at this; cases this
theorem same_per {l m : List UInt8} (hlen : l.length = m.length) (h : ∀ p, isP l p = isP m p) : perN l = perN m ∧ rootN l = rootN m := by
  unfold perN rootN
  have : isP l = isP m := funext h
  rw [hlen, this]
  exact ⟨rfl, rfl⟩
theorem occ_get {l : List UInt8} {k i : Nat} : occ l k i ↔ i + k ≤ l.length ∧ ∀ x, x < k → l[i + x]? = l[x]? := by
  unfold occ
  refine and_congr_right fun h => ?_
  constructor
  · intro e x hx
    have := congrArg (fun q : List UInt8 => q[x]?) e
    rw [List.getElem?_drop, List.getElem?_take_of_lt (by omega), List.getElem?_take_of_lt hx] at this
    exact this
  · intro e
    refine get?_lt (by simp; omega) fun x hx => ?_
    simp at hx
    rw [List.getElem?_drop, List.getElem?_take_of_lt (by omega), List.getElem?_take_of_lt (by omega), e x (by omega)]
theorem cov_rev1 {l : List UInt8} {k : Nat} (h1 : 1 ≤ k) (hk : k ≤ l.length) (h : Cov l k) : Cov l.reverse k := by
  -- the end is the beginning
  obtain ⟨i0, a1, a2, a3⟩ := h (l.length - 1) (by omega)
  have a4 := a3.1
  have : i0 = l.length - k := by omega
  subst this
  have hb := (occ_get.1 a3).2
  intro y hy
  rw [List.length_reverse] at hy
  obtain ⟨i, b1, b2, b3⟩ := h (l.length - 1 - y) (by omega)
  obtain ⟨c1, c2⟩ := occ_get.1 b3
  refine ⟨l.length - k - i, by omega, by omega, occ_get.2 ⟨by rw [List.length_reverse]; omega, fun x hx => ?_⟩⟩
  rw [List.getElem?_reverse (by omega), List.getElem?_reverse (by omega)]
  have e1 := c2 (k - 1 - x) (by omega)
  have e2 := hb (k - 1 - x) (by omega)
  rw [show l.length - 1 - (l.length - k - i + x) = i + (k - 1 - x) by omega, e1, ← e2]
  congr 1; omega
theorem covN_same {l m : List UInt8} (hlen : l.length = m.length) (h : ∀ k, 1 ≤ k → k ≤ l.length → (Cov l k ↔ Cov m k)) : covN l = covN m := by
  unfold covN
  rw [hlen]
  refine List.filter_congr fun k hk => ?_
  rw [List.mem_range'_1] at hk
  unfold cov
  exact decide_eq_decide.2 (h k hk.1 (by omega))
theorem covN_rev {l : List UInt8} : covN l = covN l.reverse := by
  refine covN_same (by simp) fun k h1 hk => ⟨cov_rev1 h1 hk, fun h => ?_⟩
  have := cov_rev1 h1 (by simpa using hk) h
  rwa [List.reverse_reverse] at this
def zkc (b : UInt8) : UInt8 := if b = 97 then 122 else if b = 98 then 107 else 99
theorem zkc_inj {a b : UInt8} (ha : a = 97 ∨ a = 98 ∨ a = 99) (hb : b = 97 ∨ b = 98 ∨ b = 99) (h : zkc a = zkc b) : a = b := by
  rcases ha with rfl | rfl | rfl <;> rcases hb with rfl | rfl | rfl <;> first | rfl | (exact absurd h (by decide))
theorem map_get {l : List UInt8} (ha : Abc l) {x y : Nat} (hx : x < l.length) (hy : y < l.length) : (l.map zkc)[x]? = (l.map zkc)[y]? ↔ l[x]? = l[y]? := by
  rw [List.getElem?_map, List.getElem?_map, List.getElem?_eq_getElem hx, List.getElem?_eq_getElem hy]
  simp only [Option.map_some, Option.some.injEq]
  exact ⟨fun h => zkc_inj (ha _ (List.getElem_mem _)) (ha _ (List.getElem_mem _)) h, fun h => by rw [h]⟩
theorem isP_map {l : List UInt8} (ha : Abc l) (p : Nat) : isP (l.map zkc) p = isP l p := by
  have key : isP (l.map zkc) p = true ↔ isP l p = true := by
    rw [isP_per, isP_per]
    constructor
    · intro h i hi
      have := h i (by simpa using hi)
      exact (map_get ha (by omega) hi).1 this
    · intro h i hi
      rw [List.length_map] at hi
      exact (map_get ha (by omega) hi).2 (h i hi)
  cases h : isP l p with
  | true => exact key.2 h
  | false =>
    rw [Bool.eq_false_iff]
    intro hh
    rw [key.1 hh] at h; cases h
theorem covN_map {l : List UInt8} (ha : Abc l) : covN l = covN (l.map zkc) := by
  refine covN_same (by simp) fun k h1 hk => ?_
  have ho : ∀ i, occ (l.map zkc) k i ↔ occ l k i := by
    intro i
    rw [occ_get, occ_get, List.length_map]
    refine and_congr_right fun hi => ?_
    exact ⟨fun h x hx => (map_get ha (by omega) (by omega)).1 (h x hx), fun h x hx => (map_get ha (by omega) (by omega)).2 (h x hx)⟩
  unfold Cov
  rw [List.length_map]
  constructor
  · intro h y hy
    obtain ⟨i, a, b, c⟩ := h y hy
    exact ⟨i, a, b, (ho i).2 c⟩
  · intro h y hy
    obtain ⟨i, a, b, c⟩ := h y hy
    exact ⟨i, a, b, (ho i).1 c⟩
def trueM (K : List ByteArray) : List (ByteArray × Bool) := K.map fun k => (k, true)
open Classical in
theorem setK_true (k : ByteArray) : ∀ K : List ByteArray, setK k true (trueM K) = trueM (if k ∈ K then K else K ++ [k]) := by
  intro K
  induction K with
  | nil => simp [trueM, setK]
  | cons x K ih =>
    simp only [trueM, List.map_cons, setK]
    by_cases h : x = k
    · subst h; simp
    · rw [if_neg h]
      have : k ∈ x :: K ↔ k ∈ K := by simp [Ne.symm h]
      unfold trueM at ih
      rw [ih]
      by_cases hk : k ∈ K
      · rw [if_pos hk, if_pos (this.2 hk)]; simp
      · rw [if_neg hk, if_neg fun hh => hk (this.1 hh)]; simp
open Classical in
theorem lookK_true (k : ByteArray) : ∀ K : List ByteArray, lookK false k (trueM K) = (decide (k ∈ K), decide (k ∈ K)) := by
  intro K
  induction K with
  | nil => simp [trueM, lookK]
  | cons x K ih =>
    simp only [trueM, List.map_cons, lookK]
    by_cases h : x = k
    · subst h; simp
    · rw [if_neg h]
      unfold trueM at ih
      rw [ih]
      have : (k ∈ x :: K) ↔ k ∈ K := by simp [Ne.symm h]
      simp [this]
theorem trueM_len {K : List ByteArray} : (trueM K).length = K.length := by simp [trueM]
end Go.Vc
namespace Go.Vc
open Go.Proofs
set_option linter.unusedVariables false
set_option linter.unnecessarySimpa false
set_option linter.unusedSimpArgs false
set_option linter.unusedSimpArgs false
theorem idx_abc {b : UInt8} (h : b = 97 ∨ b = 98 ∨ b = 99) : ((subS (strC [122, 107, 99]) (Wk .u8 ((b.toNat : Int) - (97 : Int))) ((strC [122, 107, 99]).size : Int)).bind fun x31 => subS x31 0 1) = some (strC [zkc b]) := by
  rcases h with rfl | rfl | rfl <;> rfl
theorem turned_names {l : List UInt8} {x4 : ByteArray} {k2 : ByteArray → ByteArray → Option Bool} (hl : l.length ≤ 24) (ha : Abc l) :
    ∀ (n i : Nat), i ≤ l.length → l.length - i < n → f11_6 (strC l) x4 k2 n (strC (l.take i).reverse) (strC ((l.take i).map zkc)) i = k2 (strC l.reverse) (strC (l.map zkc)) := by
  intro n
  induction n with
  | zero => intro i _ h; omega
  | succ n ih =>
    intro i hi hn
    unfold f11_6 f11_6b
    by_cases h : i < l.length
    · have hb : l[i] = 97 ∨ l[i] = 98 ∨ l[i] = 99 := ha _ (List.getElem_mem h)
      have hlo : l[i].toNat < 128 := all_lo ha.ok i h
      simp only [strC_size, h, decide_true, cond_true, Option.bind_some]
      rw [rune_lo h hlo, sub_end' (by omega), Option.bind_some]
      have s1 := subS_L (l := l.drop i) (a := 0) (b := 1) (by omega) (by simp; omega)
      rw [show ((0 : Nat) : Int) = 0 from rfl, show ((1 : Nat) : Int) = 1 from rfl, List.drop_zero, List.drop_eq_getElem_cons h] at s1
      simp only [List.take_succ_cons, List.take_zero] at s1
      rw [List.drop_eq_getElem_cons h, s1, Option.bind_some, addS_L (by simp; omega), Option.bind_some, idxS_L h, Option.bind_some]
      have e2 := idx_abc hb
      simp only [strC_size] at e2
      rw [bind2 e2, addS_L (by simp; omega), Option.bind_some]
      have t1 : [l[i]] ++ (l.take i).reverse = (l.take (i + 1)).reverse := by
        rw [List.take_succ_eq_append_getElem h, List.reverse_append]; rfl
      have t2 : (l.take i).map zkc ++ [zkc l[i]] = (l.take (i + 1)).map zkc := by
        rw [List.take_succ_eq_append_getElem h, List.map_append]; rfl
      rw [t1, t2]
      exact ih (i + 1) (by omega) (by omega)
    · have : i = l.length := by omega
      subst this
      simp only [strC_size, Nat.lt_irrefl, decide_false, cond_false, List.take_length]
def rots (l : List UInt8) (j : Nat) : List ByteArray := (List.range j).map fun i => strC (rot l i)
theorem rots_mem {l : List UInt8} (hne : l ≠ []) {j : Nat} (hj : j ≤ l.length) (h : rootN l ≤ j) : strC (rot l j) ∈ rots l (rootN l) := by
  obtain ⟨r1, r2, r3, r4, r5⟩ := rootN_spec hne
  unfold rots
  rw [List.mem_map]
  exact ⟨j % rootN l, List.mem_range.2 (Nat.mod_lt _ r1), by rw [rot_mod hne hj]⟩
theorem rots_not {l : List UInt8} (hne : l ≠ []) {j : Nat} (h : j < rootN l) : strC (rot l j) ∉ rots l j := by
  unfold rots
  rw [List.mem_map]
  rintro ⟨i, hi, e⟩
  exact rot_inj hne (List.mem_range.1 hi) h (strC_inj.1 e)
theorem rots_succ {l : List UInt8} {j : Nat} : rots l (j + 1) = rots l j ++ [strC (rot l j)] := by
  unfold rots
  rw [List.range_succ, List.map_append]; rfl
theorem turned_met {l : List UInt8} {v9 v10 : ByteArray} {e5 : Int} {x8 x9 : ByteArray × Int × Int} {k1 : List (ByteArray × Bool) → Option Bool} (hne : l ≠ []) (hl : l.length ≤ 24) (ha : Abc l) :
    ∀ (n j : Nat), j ≤ l.length → l.length - j < n → f11_19 (strC l) v9 v10 (strC (fstN l), e5) x8 x9 k1 n (trueM (rots l (min j (rootN l)))) j = k1 (trueM (rots l (rootN l))) := by
  obtain ⟨r1, r2, r3, r4, r5⟩ := rootN_spec hne
  intro n
  induction n with
  | zero => intro i _ h; omega
  | succ n ih =>
    intro j hj hn
    unfold f11_19 f11_19b
    by_cases h : j < l.length
    · have hlo : l[j].toNat < 128 := all_lo ha.ok j h
      simp only [strC_size, h, decide_true, cond_true, Option.bind_some]
      rw [rune_lo h hlo, sub_end' (by omega), sub_start (by omega)]
      simp only [Option.bind_some]
      rw [addS_rot (by omega), Option.bind_some, strLt_L, decide_eq_false (fstN_least ⟨j, hj, rfl⟩), cond_false, setK_true]
      have e : (@ite (List ByteArray) (strC (rot l j) ∈ rots l (min j (rootN l))) (Classical.propDecidable _) (rots l (min j (rootN l))) (rots l (min j (rootN l)) ++ [strC (rot l j)])) = rots l (min (j + 1) (rootN l)) := by
        by_cases hr : rootN l ≤ j
        · rw [show min j (rootN l) = rootN l by omega, show min (j + 1) (rootN l) = rootN l by omega, if_pos (rots_mem hne hj hr)]
        · rw [show min j (rootN l) = j by omega, show min (j + 1) (rootN l) = j + 1 by omega, if_neg (rots_not hne (by omega)), rots_succ]
      rw [e]
      exact ih (j + 1) (by omega) (by omega)
    · have : j = l.length := by omega
      subst this
      simp only [strC_size, Nat.lt_irrefl, decide_false, cond_false]
      rw [show min l.length (rootN l) = rootN l by omega]
theorem chk8_rev {l : List UInt8} (h : chk8 l = 0) : chk8 l.reverse = 0 := by
  obtain ⟨a, b, c⟩ := chk8_zero.1 h
  exact chk8_zero.2 ⟨by simpa using a, by simpa using b, by simpa using c⟩
theorem chk8_map {l : List UInt8} (h : chk8 l = 0) (ha : Abc l) : chk8 (l.map zkc) = 0 := by
  obtain ⟨a, b, c⟩ := chk8_zero.1 h
  refine chk8_zero.2 ⟨by simpa using a, by simpa using b, ?_⟩
  rw [List.all_map, List.all_eq_true]
  intro x hx
  rcases ha x hx with rfl | rfl | rfl <;> decide
theorem turned_one {N : Nat} {l m : List UInt8} {a : ByteArray} {e8 : Int} {A : Option Bool} (hN : 60 ≤ N) (hl : l.length ≤ 24) (hlen : l.length = m.length) (hm : chk8 m = 0) (hp : perN l = perN m) (hr : rootN l = rootN m) (hc : covN l = covN m) :
    ((f16 N (strC m)).bind fun x16 => (f20 N (strC m)).bind fun x17 => (f18 N (strC m)).bind fun x18 =>
      bif decide (¬ x16.2 = (0 : Int)) then (some (false)) else (bif decide (¬ x17.2 = (0 : Int)) then (some (false)) else (bif decide (¬ x18.2.2 = (0 : Int)) then (some (false)) else
        (bif decide (¬ x18.2.1 = (a, ((l.length / rootN l : Nat) : Int), e8).2.1) then (some (false)) else ((f22 N (toI (perN l)) x16.1).bind fun x19 => bif !x19 then (some (false)) else ((f22 N (toI (covN l)) x17.1).bind fun x20 => bif !x20 then (some (false)) else A)))))) = A := by
  have p1 := perN_len (l := l)
  have p2 := covN_len (l := l)
  rw [f16_eq (by omega), f18_eq (by omega) (by omega), f20_eq (by omega)]
  simp only [hm, if_true, Option.bind_some, not_true, decide_false, cond_false, ← hlen, ← hr, ← hp, ← hc]
  rw [f22_eq (by rw [toI_len]; omega) (by rw [toI_len]; omega), f22_eq (by rw [toI_len]; omega) (by rw [toI_len]; omega)]
  simp
theorem turned_both {N : Nat} {l : List UInt8} {a : ByteArray} {e e' e8 : Int} {k0 : Option Bool} (hN : 60 ≤ N) (hl : l.length ≤ 24) (h0 : chk8 l = 0) (ha : Abc l) :
    f11_30 N (strC l.reverse) (strC (l.map zkc)) (a, ((l.length / rootN l : Nat) : Int), e8) (toI (perN l), e) (toI (covN l), e') k0 N 0 = k0 := by
  obtain ⟨m, rfl⟩ : ∃ m, N = m + 3 := ⟨N - 3, by omega⟩
  have i0 : ix [strC l.reverse, strC (l.map zkc)] 0 = some (strC l.reverse) := rfl
  have i1 : ix [strC l.reverse, strC (l.map zkc)] 1 = some (strC (l.map zkc)) := rfl
  have w0 : W ((0 : Int) + 1) = 1 := by decide
  have w1 : W ((1 : Int) + 1) = 2 := by decide
  have c0 : decide ((0 : Int) < (List.length [strC l.reverse, strC (l.map zkc)] : Int)) = true := by simp
  have c1 : decide ((1 : Int) < (List.length [strC l.reverse, strC (l.map zkc)] : Int)) = true := by simp
  have c2 : decide ((2 : Int) < (List.length [strC l.reverse, strC (l.map zkc)] : Int)) = false := by simp
  have s1 := same_per (l := l) (m := l.reverse) (by simp) fun p => isP_rev.symm
  have s2 := same_per (l := l) (m := l.map zkc) (by simp) fun p => (isP_map ha p).symm
  rw [show f11_30 (m + 3) (strC l.reverse) (strC (l.map zkc)) (a, ((l.length / rootN l : Nat) : Int), e8) (toI (perN l), e) (toI (covN l), e') k0 (m + 3) 0 = f11_30b (f11_30 (m + 3) (strC l.reverse) (strC (l.map zkc)) (a, ((l.length / rootN l : Nat) : Int), e8) (toI (perN l), e) (toI (covN l), e') k0 (m + 2)) (m + 3) (strC l.reverse) (strC (l.map zkc)) (a, ((l.length / rootN l : Nat) : Int), e8) (toI (perN l), e) (toI (covN l), e') k0 0 from rfl]
  unfold f11_30b
  rw [c0, cond_true, i0, Option.bind_some, w0, turned_one hN hl (by simp) (chk8_rev h0) s1.1 s1.2 covN_rev]
  rw [show f11_30 (m + 3) (strC l.reverse) (strC (l.map zkc)) (a, ((l.length / rootN l : Nat) : Int), e8) (toI (perN l), e) (toI (covN l), e') k0 (m + 2) 1 = f11_30b (f11_30 (m + 3) (strC l.reverse) (strC (l.map zkc)) (a, ((l.length / rootN l : Nat) : Int), e8) (toI (perN l), e) (toI (covN l), e') k0 (m + 1)) (m + 3) (strC l.reverse) (strC (l.map zkc)) (a, ((l.length / rootN l : Nat) : Int), e8) (toI (perN l), e) (toI (covN l), e') k0 1 from rfl]
  unfold f11_30b
  rw [c1, cond_true, i1, Option.bind_some, w1, turned_one hN hl (by simp) (chk8_map h0 ha) s2.1 s2.2 (covN_map ha)]
  rw [show f11_30 (m + 3) (strC l.reverse) (strC (l.map zkc)) (a, ((l.length / rootN l : Nat) : Int), e8) (toI (perN l), e) (toI (covN l), e') k0 (m + 1) 2 = f11_30b (f11_30 (m + 3) (strC l.reverse) (strC (l.map zkc)) (a, ((l.length / rootN l : Nat) : Int), e8) (toI (perN l), e) (toI (covN l), e') k0 m) (m + 3) (strC l.reverse) (strC (l.map zkc)) (a, ((l.length / rootN l : Nat) : Int), e8) (toI (perN l), e) (toI (covN l), e') k0 2 from rfl]
  unfold f11_30b
  rw [c2, cond_false]
open Classical in
theorem f11_true (a0 : List Int) (a1 : Int) (hw : ∀ x ∈ a0, 0 ≤ x) (h1 : 0 ≤ a1) : f11 60 a0 a1 = some true := by
  unfold f11
  obtain ⟨l, e, l1, l2, l3⟩ := f41_eq (w := a0) (m := 24) (N := 60) (by omega) (by omega) hw (by omega)
  have hne : l ≠ [] := by rintro rfl; simp at l1
  have h0 := l3.chk l1 l2
  obtain ⟨r1, r2, r3, r4, r5⟩ := rootN_spec hne
  rw [show ((24 : Nat) : Int) = 24 from rfl] at e
  rw [e, Option.bind_some]
  obtain ⟨t, rfl⟩ : ∃ t : Nat, a1 = t := ⟨a1.toNat, by omega⟩
  have hc : chk (decide (((strC l).size : Int) ≠ 0)) = some () := by rw [strC_size, decide_eq_true (by omega)]; rfl
  have ht : Int.tmod (t : Int) ((strC l).size : Int) = ((t % l.length : Nat) : Int) := by rw [strC_size]; rfl
  have hlt := Nat.mod_lt t (show l.length > 0 by omega)
  rw [hc, Option.bind_some, ht]
  generalize t % l.length = k at hlt
  rw [strC_size, sub_end' (by omega), sub_start (by omega)]
  simp only [Option.bind_some, joinK]
  rw [addS_rot (by omega), Option.bind_some]
  have hn := turned_names (l := l) (x4 := strC (rot l k)) (k2 := f11_c10 60 (strC l) (strC (rot l k))) l2 l3 60 0 (by omega) (by omega)
  simp only [List.take_zero, List.reverse_nil, List.map_nil] at hn
  rw [emptyS_eq, hn]
  unfold f11_c10
  have hT : Turned l (rot l k) := ⟨k, by omega, rfl⟩
  have hk0 : chk8 (rot l k) = 0 := by
    obtain ⟨q1, q2, q3⟩ := chk8_zero.1 h0
    refine chk8_zero.2 ⟨rot_ne hne, by rw [rot_len]; exact q2, ?_⟩
    unfold rot
    rw [List.all_append, Bool.and_eq_true]
    rw [List.all_eq_true] at q3
    exact ⟨List.all_eq_true.2 fun x hx => q3 x (List.mem_of_mem_drop hx), List.all_eq_true.2 fun x hx => q3 x (List.mem_of_mem_take hx)⟩
  rw [f29_eq (by omega), f29_eq (by omega), f31_eq (by omega), f18_eq (by omega) (by omega), f18_eq (by omega) (by rw [rot_len]; omega)]
  have hS : sameR l (rot l k) = (true, 0) := by
    unfold sameR
    rw [if_neg (by simp [h0]), if_neg (by simp [hk0]), decide_eq_true hT]
  have hrt := root_turned hne hT
  have hmul : l.length / rootN l * rootN l = l.length := Nat.div_mul_cancel (Nat.dvd_of_mod_eq_zero r3)
  have hW : W ((((rot l k).take (rootN l)).length : Int) * ((l.length / rootN l : Nat) : Int)) = (l.length : Int) := by
    have h3 : ((rot l k).take (rootN l)).length = rootN l := by rw [List.length_take, rot_len]; omega
    have : ((rootN l : Int) * ((l.length / rootN l : Nat) : Int)) = (l.length : Int) := by
      rw [← Int.natCast_mul, Nat.mul_comm, hmul]
    rw [h3, this, W_of (by omega) (by omega)]
  simp only [hS, h0, hk0, hrt, rot_len, if_true, Option.bind_some, not_true, decide_false, cond_false, fstN_eq.2 hT, Bool.not_true, joinK, hW, strC_size]
  have hm := turned_met (l := l) (v9 := strC l.reverse) (v10 := strC (l.map zkc)) (e5 := 0) (x8 := (strC (l.take (rootN l)), ((l.length / rootN l : Nat) : Int), 0)) (x9 := (strC ((rot l k).take (rootN l)), ((l.length / rootN l : Nat) : Int), 0))
    (k1 := f11_c25 60 (strC l) (strC l.reverse) (strC (l.map zkc)) (strC (fstN l), 0) (strC (l.take (rootN l)), ((l.length / rootN l : Nat) : Int), 0) (strC ((rot l k).take (rootN l)), ((l.length / rootN l : Nat) : Int), 0)) hne l2 l3 60 0 (by omega) (by omega)
  rw [Nat.zero_min] at hm
  rw [← fstN_eq.2 hT]
  refine Eq.trans hm ?_
  unfold f11_c25
  have hin : strC (fstN l) ∈ rots l (rootN l) := by
    obtain ⟨j, hj, ej⟩ := fstN_turned (l := l)
    unfold rots
    rw [List.mem_map]
    exact ⟨j % rootN l, List.mem_range.2 (Nat.mod_lt _ r1), by rw [← rot_mod hne hj, ej]⟩
  have hlen2 : (rots l (rootN l)).length = rootN l := by simp [rots]
  have hsz : ((strC ((rot l k).take (rootN l))).size : Int) = (rootN l : Int) := by
    rw [strC_size, List.length_take, rot_len, show min (rootN l) l.length = rootN l by omega]
  have hlm : lenM (trueM (rots l (rootN l))) = some (rootN l) := by
    unfold lenM
    rw [trueM_len, hlen2, if_pos (by simp [maxLen]; omega)]
  simp only [lookK_true, hin, decide_true, Bool.not_true, cond_false, Option.bind_some, hlm, hsz, not_true, decide_false, joinK]
  rw [f16_eq (by omega), f20_eq (by omega)]
  simp only [h0, if_true, Option.bind_some]
  rw [turned_both (by omega) l2 h0 l3]
  unfold f11_c38
  simp [t15]
end Go.Vc
namespace Go.Vc
set_option linter.unusedVariables false
set_option linter.unnecessarySimpa false
set_option linter.unusedSimpArgs false
set_option linter.unusedSimpArgs false
abbrev tB : Ty := .int .u8
abbrev tBytes : Ty := .slice tB false 1
def u8In (n : Int) : Prop := 0 ≤ n ∧ n ≤ 255
theorem tB_of {ds : List D} (h : tB.has ds) : ∃ n, ds = [u8N n] ∧ u8In n := by
  simp only [tB, Ty.has] at h
  obtain ⟨n, rfl, h⟩ := h
  exact ⟨n, rfl, by simpa [IntKind.min, IntKind.max, IntKind.signed, IntKind.bits, u8In] using h⟩
theorem bytes_of {ds : List D} (h : tBytes.has ds) : ∃ l : List Int, ds = [sl_u8N l] ∧ ∀ x, x ∈ l → u8In x := by
  obtain ⟨l, h1, _, h3⟩ := slice_of (d := u8N) (p := u8In) (fun cs hc => by
    obtain ⟨n, rfl, h⟩ := tB_of hc
    exact ⟨n, rfl, h⟩) h
  exact ⟨l, h1, h3⟩
theorem tB_ofD {x : D} (h : tB.hasD x) : ∃ n, x = u8N n ∧ u8In n := by
  obtain ⟨n, h1, h2⟩ := tB_of (ds := [x]) h
  exact ⟨n, List.singleton_inj.1 h1, h2⟩
theorem bytes_ofD {x : D} (h : tBytes.hasD x) : ∃ l : List Int, x = sl_u8N l ∧ ∀ x, x ∈ l → u8In x := by
  obtain ⟨n, h1, h2⟩ := bytes_of (ds := [x]) h
  exact ⟨n, List.singleton_inj.1 h1, h2⟩
end Go.Vc

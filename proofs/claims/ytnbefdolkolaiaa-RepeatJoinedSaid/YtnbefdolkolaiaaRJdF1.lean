/-
  A library for proofs about Go functions by symbolic evaluation, and plain Lean functions that the walked Go functions compute (written by a program of this claim).
-/
import Derived.Test.YtnbefdolkolaiaaW1
import Derived.Test.YtnbefdolkolaiaaW3
import Derived.Test.YtnbefdolkolaiaaVc3
import Derived.Test.YtnbefdolkolaiaaW2
namespace Go.Vc
open Go.Proofs
set_option linter.unusedVariables false
set_option linter.unnecessarySimpa false
set_option linter.unusedSimpArgs false
section
variable {c : Ctx} {p nid : Nat} {a b : Code} {st : St} {K : Ex → St → Prop}
def f41_c9 (out5 : ByteArray) : Option (ByteArray) :=
 bif decide (out5 = emptyS) then (some ((strC [97])))
 else (some (out5))
def Lf41_c9 : Lp (ByteArray) Unit (ByteArray) := lp0 ⟨[5], [], [], []⟩ (fun out5 => [.dat (strN out5)]) (fun _ => []) (fun out5 => f41_c9 out5)
theorem Ef41_c9 {out5} : (Lf41_c9).E out5 = f41_c9 out5 := rfl
def f41_3b (r3 : ByteArray → Int → Option (ByteArray)) (a0 : List Int) (a1 : Int) (k0 : ByteArray → Option (ByteArray)) (out5 : ByteArray) (i6 : Int) : Option (ByteArray) :=
 bif decide (i6 < (List.length a0 : Int)) then (bif decide ((ByteArray.size out5 : Int) < a1) then ((ix a0 i6).bind fun x1 =>
 bif decide ((128 : Int) ≤ x1) then (bif decide ((0 : Int) < (ByteArray.size out5 : Int)) then ((chk (decide ((ByteArray.size out5 : Int) ≠ 0))).bind fun _ =>
 (subS out5 (W ((W ((ByteArray.size out5 : Int) - (1 : Int))) - (Int.tmod x1 (ByteArray.size out5 : Int)))) (ByteArray.size out5 : Int)).bind fun x2 =>
 (subS x2 0 (1 : Int)).bind fun x3 =>
 (addS out5 x3).bind fun x4 =>
 r3 x4 (W (i6 + (1 : Int))))
 else ((subS (strC [97, 98, 99]) (Int.tmod x1 (3 : Int)) (ByteArray.size (strC [97, 98, 99]) : Int)).bind fun x5 =>
 (subS x5 0 (1 : Int)).bind fun x6 =>
 (addS out5 x6).bind fun x7 =>
 r3 x7 (W (i6 + (1 : Int)))))
 else ((subS (strC [97, 98, 99]) (Int.tmod x1 (3 : Int)) (ByteArray.size (strC [97, 98, 99]) : Int)).bind fun x8 =>
 (subS x8 0 (1 : Int)).bind fun x9 =>
 (addS out5 x9).bind fun x10 =>
 r3 x10 (W (i6 + (1 : Int)))))
 else (k0 out5))
 else (k0 out5)
def f41_3 (a0 : List Int) (a1 : Int) (k0 : ByteArray → Option (ByteArray)) : Nat → ByteArray → Int → Option (ByteArray)
  | 0, _, _ => none
  | n + 1, out5, i6 => f41_3b (f41_3 a0 a1 k0 n) a0 a1 k0 out5 i6
def Lf41_3 (a0 : List Int) (a1 : Int) (k0 : ByteArray → Option (ByteArray)) : Lp (Nat × ByteArray × Int) Unit (ByteArray) := lp0 ⟨[0, 1, 5, 6], [], [], []⟩ (fun (_, out5, i6) => [.dat (sl_u8N a0), .dat (iN a1), .dat (strN out5), .dat (iN i6)]) (fun (_, _, _) => []) (fun (n, out5, i6) => f41_3 a0 a1 k0 n out5 i6)
theorem Ef41_3 {a0 a1 k0 n out5 i6} : (Lf41_3 a0 a1 k0).E (n, out5, i6) = f41_3 a0 a1 k0 n out5 i6 := rfl
def f41 (N : Nat) (a0 : List Int) (a1 : Int) : Option (ByteArray) :=
 joinK f41_c9 fun k0 =>
 f41_3 a0 a1 k0 N emptyS (0 : Int)
def G41 (ds : List D) (d : D) : Prop := ∃ (N : Nat) (a0 : List Int) (a1 : Int) (r : ByteArray), ds = [sl_u8N a0, iN a1] ∧ f41 N a0 a1 = some r ∧ d = strN r
theorem G41.lend {N : Nat} {a0 : List Int} {a1 : Int} {ρ : Type} {A : ByteArray → Option ρ} {q : ρ} {ds : List D} {K : D → Prop} (hd : ds = [sl_u8N a0, iN a1]) (h : ∀ r, A r = some q → K (strN r)) (hF : (f41 N a0 a1).bind A = some q) : ∃ d, (G41 ds d ∧ d.flatB = true) ∧ K d := by
  obtain ⟨r, hr, hA⟩ := bind_some hF
  exact ⟨_, ⟨⟨N, a0, a1, r, hd, hr, rfl⟩, rfl⟩, h r hA⟩
set_option maxRecDepth 20000 in
set_option maxHeartbeats 4000000 in
theorem P41 : PureOK Try.prog 41 G41 := by
  refine pure_of_vc (c := mkCtx tyTree []) rfl tyOK (ctx_nil) [[0]] 2 Try.func41 rfl rfl (by decide) (by kernel_rfl) ?_
  rintro ds d ⟨N, a0, a1, r, rfl, hF, rfl⟩ hok
  clear hok
  refine ⟨rfl, ?_⟩
  show vc _ _ _ _ ⟨[(0, .dat (sl_u8N a0)), (1, .dat (iN a1))], []⟩ _
  unfold f41 at hF
  repeat' (first
    | ((with_reducible first | refine q0 _ _ ?_ | refine q1 _ _ _ _ ?_ | refine q2 _ _ _ ?_); clear Q q0 q1 q2)
    | ((with_reducible first | refine seq_op ?hx (fun Q q0 q1 q2 => ?_)); (case hx => exact rfl); conv => whnf)
    | ((with_reducible first | refine seq_off ?hx ?_ | refine seq_off0 ?hx ?_ | refine k_blk_out ?hx ?_ | refine vc_condT ?hx ?_); (case hx => exact rfl))
    | ((with_reducible refine seq_id ?_); (first | ((first | refine seq_opK rfl ?hy (fun Q q0 q1 q2 => ?_) | refine seq_opK0 rfl ?hy (fun Q q0 q1 q2 => ?_)); (case hy => first | assumption | exact notT (by assumption) | exact rfl); conv => whnf) | ((first | refine seq_offK rfl ?hy ?_ | refine seq_offK0 rfl ?hy ?_); (case hy => first | assumption | exact notF (by assumption) | exact rfl)) | (revert hF; (with_reducible first | refine seq_opF ?hx ?_ ?_ | refine seq_opF0 ?hx ?_ ?_); (case hx => exact rfl); (intro hc hF Q q0 q1 q2; conv => whnf); rotate_left; (intro hc hF); rotate_right) | (revert hF; (with_reducible first | refine seq_opN ?hx ?_ ?_ | refine seq_opN0 ?hx ?_ ?_); (case hx => exact rfl); (intro hc hF); rotate_left; (intro hc hF Q q0 q1 q2; conv => whnf); rotate_right)))
    | ((with_reducible refine cond_id ?_); (first | ((refine condKT rfl ?hy ?_); (case hy => first | assumption | exact notT (by assumption) | exact rfl)) | ((refine condKF rfl ?hy ?_); (case hy => first | assumption | exact notF (by assumption) | exact rfl)) | (revert hF; (with_reducible refine condF ?hx ?_ ?_); (case hx => exact rfl); all_goals (intro hc hF))))
    | ((with_reducible refine seq_nil ?_); (first | ((with_reducible refine hR _ ?_); clear R hR) | ((with_reducible refine hL _ ?_); clear L hL)))
    | ((with_reducible first | refine int_step ?_ | refine len_step ?_ | refine idx2 (by assumption) ?_ | refine idx3 (by assumption) ?_); conv => whnf)
    | (with_reducible first | refine vc_block ?_ | refine vc_skip ?_ | refine vc_ret ?_ | refine vc_exit ?_ | refine vc_region (fun R hR => ?_) | refine k_seq_ret ?_ | refine k_seq_exit ?_ | refine k_blk ?_ | refine k_blk_ret ?_ | refine k_blk_here ?_ | refine k_loop_ret ?_ | refine k_loop_exit ?_)
    | ((with_reducible refine vc_seqN [9] ?hx ?_); (case hx => exact rfl))
    | (revert hF; (refine Lp.cut0 Lf41_c9 f41_c9 9 rfl rfl ?_ ?_); (intro hF); rotate_left; (rintro out5 hF; dsimp only [Lf41_c9] at hF; unfold f41_c9 at hF); rotate_right)
    | exact Lp.head Ef41_c9 hF () ⟨_, rfl, rfl, rfl, rfl⟩ rfl
    | (revert hF; (refine Lp.loop Ef41_3 () rfl ⟨_, rfl, rfl, rfl, rfl⟩ rfl (fun _ => rfl) ?_); rintro n ⟨out5, i6⟩ hF; dsimp only [Lf41_3, f41_3] at hF; unfold f41_3b at hF)
    | exact Lp.back Ef41_3 hF () ⟨_, rfl, rfl, rfl, rfl⟩ rfl
    | (revert hF; (refine subS_step ?_); intro x hF; conv => whnf)
    | (revert hF; (refine addS_step ?_); intro x hF; conv => whnf)
    | (revert hF; (with_reducible refine idx1 ?hn ?_); (case hn => first | exact rfl | exact (List.length_map _) | assumption | omega | simp); intro x hx hF; conv => whnf)
    | ((refine row_all ?hn ?_); (case hn => first | exact rfl | (simp; done) | (simp; omega)); conv => whnf)
    | ((with_reducible refine le_step ?hn ?_); (case hn => first | exact rfl | assumption | omega); conv => whnf)
    | ((refine ⟨?hx, ?_⟩); (case hx => exact ⟨rfl, Nat.le_of_ble_eq_true rfl, rfl⟩); conv => whnf)
    | ((with_reducible refine ex_step ?_); conv => whnf)
    | ((with_reducible have hG := chk_fact hF); clear hF; (refine ⟨?hx, ?_⟩); (case hx => (first | exact of_decide_eq_true hG.1 | exact hG.1)); have hF := hG.2; clear hG; conv => whnf)
    | ((with_reducible refine both_T ?hx ?_); (case hx => first | exact rfl | assumption | exact notT (by assumption)); conv => whnf)
    | ((with_reducible refine both_F ?hx ?_); (case hx => first | exact rfl | assumption | exact notF (by assumption)); conv => whnf)
    | (revert hF; (with_reducible refine ite_step ?_ ?_) <;> (intro hc hF; conv => whnf))
    | ((with_reducible refine vc_condF ?hx ?_); (case hx => exact rfl))
    | (show retD _ _ _ _ _ _; conv => whnf)
    | ((refine ⟨?hx, trivial⟩); (case hx => (cases hF; exact rfl)))
    | ((refine ⟨?hx, ?_⟩); (case hx => decide); conv => whnf)
    | with_reducible refine k_seq ?_
    | (have hF : (none : Option _) = some _ := hF; cases hF))
end
end Go.Vc
namespace Go.Vc
open Go.Proofs
set_option linter.unusedVariables false
set_option linter.unnecessarySimpa false
set_option linter.unusedSimpArgs false
section
variable {c : Ctx} {p nid : Nat} {a b : Code} {st : St} {K : Ex → St → Prop}
def f44_c6 : Option (Bool) :=
 some (false)
def Lf44_c6 : Lp (Unit) Unit (Bool) := lp0 ⟨[], [], [], []⟩ (fun _ => []) (fun _ => []) (fun _ => f44_c6)
theorem Ef44_c6 : (Lf44_c6).E () = f44_c6 := rfl
def f44_2b (r2 : Int → Option (Bool)) (a0 : ByteArray) (a1 : ByteArray) (k0 : Option (Bool)) (i5 : Int) : Option (Bool) :=
 bif decide ((W (i5 + (ByteArray.size a1 : Int))) ≤ (ByteArray.size a0 : Int)) then ((subS a0 i5 (ByteArray.size a0 : Int)).bind fun x1 =>
 (subS x1 0 (ByteArray.size a1 : Int)).bind fun x2 =>
 bif decide (x2 = a1) then (some (true))
 else (r2 (W (i5 + (1 : Int)))))
 else k0
def f44_2 (a0 : ByteArray) (a1 : ByteArray) (k0 : Option (Bool)) : Nat → Int → Option (Bool)
  | 0, _ => none
  | n + 1, i5 => f44_2b (f44_2 a0 a1 k0 n) a0 a1 k0 i5
def Lf44_2 (a0 : ByteArray) (a1 : ByteArray) (k0 : Option (Bool)) : Lp (Nat × Int) Unit (Bool) := lp0 ⟨[0, 1, 5], [], [], []⟩ (fun (_, i5) => [.dat (strN a0), .dat (strN a1), .dat (iN i5)]) (fun (_, _) => []) (fun (n, i5) => f44_2 a0 a1 k0 n i5)
theorem Ef44_2 {a0 a1 k0 n i5} : (Lf44_2 a0 a1 k0).E (n, i5) = f44_2 a0 a1 k0 n i5 := rfl
def f44 (N : Nat) (a0 : ByteArray) (a1 : ByteArray) : Option (Bool) :=
 joinK f44_c6 fun k0 =>
 f44_2 a0 a1 k0 N (0 : Int)
def G44 (ds : List D) (d : D) : Prop := ∃ (N : Nat) (a0 : ByteArray) (a1 : ByteArray) (r : Bool), ds = [strN a0, strN a1] ∧ f44 N a0 a1 = some r ∧ d = bN r
theorem G44.lend {N : Nat} {a0 : ByteArray} {a1 : ByteArray} {ρ : Type} {A : Bool → Option ρ} {q : ρ} {ds : List D} {K : D → Prop} (hd : ds = [strN a0, strN a1]) (h : ∀ r, A r = some q → K (bN r)) (hF : (f44 N a0 a1).bind A = some q) : ∃ d, (G44 ds d ∧ d.flatB = true) ∧ K d := by
  obtain ⟨r, hr, hA⟩ := bind_some hF
  exact ⟨_, ⟨⟨N, a0, a1, r, hd, hr, rfl⟩, rfl⟩, h r hA⟩
set_option maxRecDepth 20000 in
set_option maxHeartbeats 4000000 in
theorem P44 : PureOK Try.prog 44 G44 := by
  refine pure_of_vc (c := mkCtx tyTree []) rfl tyOK (ctx_nil) [[0]] 2 Try.func44 rfl rfl (by decide) (by kernel_rfl) ?_
  rintro ds d ⟨N, a0, a1, r, rfl, hF, rfl⟩ hok
  clear hok
  refine ⟨rfl, ?_⟩
  show vc _ _ _ _ ⟨[(0, .dat (strN a0)), (1, .dat (strN a1))], []⟩ _
  unfold f44 at hF
  repeat' (first
    | ((with_reducible first | refine q0 _ _ ?_ | refine q1 _ _ _ _ ?_ | refine q2 _ _ _ ?_); clear Q q0 q1 q2)
    | ((with_reducible first | refine seq_op ?hx (fun Q q0 q1 q2 => ?_)); (case hx => exact rfl); conv => whnf)
    | ((with_reducible refine cond_id ?_); (first | ((refine condKT rfl ?hy ?_); (case hy => first | assumption | exact notT (by assumption) | exact rfl)) | ((refine condKF rfl ?hy ?_); (case hy => first | assumption | exact notF (by assumption) | exact rfl)) | (revert hF; (with_reducible refine condF ?hx ?_ ?_); (case hx => exact rfl); all_goals (intro hc hF))))
    | ((with_reducible refine seq_nil ?_); (first | ((with_reducible refine hR _ ?_); clear R hR) | ((with_reducible refine hL _ ?_); clear L hL)))
    | ((with_reducible first | refine int_step ?_); conv => whnf)
    | (with_reducible first | refine vc_block ?_ | refine vc_skip ?_ | refine vc_ret ?_ | refine vc_exit ?_ | refine vc_region (fun R hR => ?_) | refine k_seq_ret ?_ | refine k_seq_exit ?_ | refine k_blk ?_ | refine k_blk_ret ?_ | refine k_blk_here ?_ | refine k_loop_ret ?_ | refine k_loop_exit ?_)
    | ((with_reducible refine vc_seqN [6] ?hx ?_); (case hx => exact rfl))
    | (revert hF; (refine Lp.cut0 Lf44_c6 f44_c6 6 rfl rfl ?_ ?_); (intro hF); rotate_left; (rintro _ hF; dsimp only [Lf44_c6] at hF; unfold f44_c6 at hF); rotate_right)
    | exact Lp.head Ef44_c6 hF () ⟨_, rfl, rfl, rfl, rfl⟩ rfl
    | (revert hF; (refine Lp.loop Ef44_2 () rfl ⟨_, rfl, rfl, rfl, rfl⟩ rfl (fun _ => rfl) ?_); rintro n i5 hF; dsimp only [Lf44_2, f44_2] at hF; unfold f44_2b at hF)
    | exact Lp.back Ef44_2 hF () ⟨_, rfl, rfl, rfl, rfl⟩ rfl
    | (revert hF; (refine subS_step ?_); intro x hF; conv => whnf)
    | ((with_reducible first | refine k_blk_out ?hx ?_ | refine vc_condT ?hx ?_); (case hx => exact rfl))
    | ((refine row_all ?hn ?_); (case hn => first | exact rfl | (simp; done) | (simp; omega)); conv => whnf)
    | ((with_reducible refine le_step ?hn ?_); (case hn => first | exact rfl | assumption | omega); conv => whnf)
    | ((refine ⟨?hx, ?_⟩); (case hx => exact ⟨rfl, Nat.le_of_ble_eq_true rfl, rfl⟩); conv => whnf)
    | ((with_reducible refine ex_step ?_); conv => whnf)
    | ((with_reducible refine both_T ?hx ?_); (case hx => first | exact rfl | assumption | exact notT (by assumption)); conv => whnf)
    | ((with_reducible refine both_F ?hx ?_); (case hx => first | exact rfl | assumption | exact notF (by assumption)); conv => whnf)
    | (revert hF; (with_reducible refine ite_step ?_ ?_) <;> (intro hc hF; conv => whnf))
    | ((with_reducible refine vc_condF ?hx ?_); (case hx => exact rfl))
    | (show retD _ _ _ _ _ _; conv => whnf)
    | ((refine ⟨?hx, trivial⟩); (case hx => (cases hF; exact rfl)))
    | ((refine ⟨?hx, ?_⟩); (case hx => decide); conv => whnf)
    | with_reducible refine k_seq ?_
    | (have hF : (none : Option _) = some _ := hF; cases hF))
end
end Go.Vc
namespace Go.Vc
open Go.Proofs
set_option linter.unusedVariables false
set_option linter.unnecessarySimpa false
set_option linter.unusedSimpArgs false
section
variable {c : Ctx} {p nid : Nat} {a b : Code} {st : St} {K : Ex → St → Prop}
def f45_c15 : Option (Bool) :=
 some (false)
def Lf45_c15 : Lp (Unit) Unit (Bool) := lp0 ⟨[], [], [], []⟩ (fun _ => []) (fun _ => []) (fun _ => f45_c15)
theorem Ef45_c15 : (Lf45_c15).E () = f45_c15 := rfl
def f45_10b (r10 : Int → Option (Bool)) (a0 : ByteArray) (a1 : List ByteArray) (a2 : Int) (self : ByteArray → (List ByteArray) → Int → Option (Bool)) (k0 : Option (Bool)) (v35 : Int) : Option (Bool) :=
 bif decide (v35 < (List.length [(strC [97]), (strC [98]), (strC [99])] : Int)) then ((ix [(strC [97]), (strC [98]), (strC [99])] v35).bind fun x1 =>
 (addS a0 x1).bind fun x2 =>
 (self x2 a1 a2).bind fun x3 =>
 bif x3 then (some (true))
 else (r10 (W (v35 + (1 : Int)))))
 else k0
def f45_10 (a0 : ByteArray) (a1 : List ByteArray) (a2 : Int) (self : ByteArray → (List ByteArray) → Int → Option (Bool)) (k0 : Option (Bool)) : Nat → Int → Option (Bool)
  | 0, _ => none
  | n + 1, v35 => f45_10b (f45_10 a0 a1 a2 self k0 n) a0 a1 a2 self k0 v35
def Lf45_10 (a0 : ByteArray) (a1 : List ByteArray) (a2 : Int) (self : ByteArray → (List ByteArray) → Int → Option (Bool)) (k0 : Option (Bool)) : Lp (Nat × Int) (Nat) (Bool) := ⟨⟨[0, 1, 2, 33, 34, 35], [900], [], []⟩, fun (_, v35) => [.dat (strN a0), .dat (sl_strN a1), .dat (iN a2), .rs 900 (List.length [(strC [97]), (strC [98]), (strC [99])]), .dat (iN (List.length [(strC [97]), (strC [98]), (strC [99])] : Int)), .dat (iN v35)], fun (_, _) => [.row 9 1 (List.map strN [(strC [97]), (strC [98]), (strC [99])])], fun (n, v35) => f45_10 a0 a1 a2 self k0 n v35, fun (_, v35) m0 => [.dat (strN a0), .dat (sl_strN a1), .dat (iN a2), .rs 900 m0, .dat (iN (List.length [(strC [97]), (strC [98]), (strC [99])] : Int)), .dat (iN v35)], fun (_, _) _ => [.row 9 1 (List.map strN [(strC [97]), (strC [98]), (strC [99])])], fun (_, _) => List.length [(strC [97]), (strC [98]), (strC [99])], fun _ => rfl, fun _ => rfl⟩
theorem Ef45_10 {a0 a1 a2 self k0 n v35} : (Lf45_10 a0 a1 a2 self k0).E (n, v35) = f45_10 a0 a1 a2 self k0 n v35 := rfl
def f45_c7 (a0 : ByteArray) (a1 : List ByteArray) (a2 : Int) (N : Nat) (self : ByteArray → (List ByteArray) → Int → Option (Bool)) (all7 : Bool) : Option (Bool) :=
 bif all7 then (some (all7))
 else (bif decide (a2 ≤ (ByteArray.size a0 : Int)) then (some (all7))
 else (joinK f45_c15 fun k0 =>
 f45_10 a0 a1 a2 self k0 N (0 : Int)))
def Lf45_c7 (a0 : ByteArray) (a1 : List ByteArray) (a2 : Int) (N : Nat) (self : ByteArray → (List ByteArray) → Int → Option (Bool)) : Lp (Bool) Unit (Bool) := lp0 ⟨[0, 1, 2, 7], [], [], []⟩ (fun all7 => [.dat (strN a0), .dat (sl_strN a1), .dat (iN a2), .kb all7]) (fun _ => []) (fun all7 => f45_c7 a0 a1 a2 N self all7)
theorem Ef45_c7 {a0 a1 a2 N self all7} : (Lf45_c7 a0 a1 a2 N self).E all7 = f45_c7 a0 a1 a2 N self all7 := rfl
def f45_3b (r3 : Bool → Int → Option (Bool)) (a0 : ByteArray) (a1 : List ByteArray) (a2 : Int) (N : Nat) (k1 : Bool → Option (Bool)) (all7 : Bool) (v14 : Int) : Option (Bool) :=
 bif decide (v14 < (List.length a1 : Int)) then ((ix a1 v14).bind fun x4 =>
 bif all7 then ((f44 N a0 x4).bind fun x5 =>
 r3 x5 (W (v14 + (1 : Int))))
 else (r3 false (W (v14 + (1 : Int)))))
 else (k1 all7)
def f45_3 (a0 : ByteArray) (a1 : List ByteArray) (a2 : Int) (N : Nat) (k1 : Bool → Option (Bool)) : Nat → Bool → Int → Option (Bool)
  | 0, _, _ => none
  | n + 1, all7, v14 => f45_3b (f45_3 a0 a1 a2 N k1 n) a0 a1 a2 N k1 all7 v14
def Lf45_3 (a0 : ByteArray) (a1 : List ByteArray) (a2 : Int) (N : Nat) (k1 : Bool → Option (Bool)) : Lp (Nat × Bool × Int) Unit (Bool) := lp0 ⟨[0, 1, 2, 7, 12, 13, 14], [], [], []⟩ (fun (_, all7, v14) => [.dat (strN a0), .dat (sl_strN a1), .dat (iN a2), .kb all7, .dat (sl_strN a1), .dat (iN (List.length a1 : Int)), .dat (iN v14)]) (fun (_, _, _) => []) (fun (n, all7, v14) => f45_3 a0 a1 a2 N k1 n all7 v14)
theorem Ef45_3 {a0 a1 a2 N k1 n all7 v14} : (Lf45_3 a0 a1 a2 N k1).E (n, all7, v14) = f45_3 a0 a1 a2 N k1 n all7 v14 := rfl
def f45b (self : ByteArray → (List ByteArray) → Int → Option (Bool)) (N : Nat) (a0 : ByteArray) (a1 : List ByteArray) (a2 : Int) : Option (Bool) :=
 joinK (f45_c7 a0 a1 a2 N self) fun k1 =>
 f45_3 a0 a1 a2 N k1 N true (0 : Int)
def f45 : Nat → ByteArray → (List ByteArray) → Int → Option (Bool)
  | 0, _, _, _ => none
  | N + 1, a0, a1, a2 => f45b (f45 N) N a0 a1 a2
def H45 (N : Nat) (ds : List D) (d : D) : Prop := ∃ (a0 : ByteArray) (a1 : List ByteArray) (a2 : Int) (r : Bool), ds = [strN a0, sl_strN a1, iN a2] ∧ f45 N a0 a1 a2 = some r ∧ d = bN r
def G45 (ds : List D) (d : D) : Prop := ∃ N : Nat, H45 N ds d
theorem H45.lend {N : Nat} {a0 : ByteArray} {a1 : List ByteArray} {a2 : Int} {ρ : Type} {A : Bool → Option ρ} {q : ρ} {ds : List D} {K : D → Prop} (hd : ds = [strN a0, sl_strN a1, iN a2]) (h : ∀ r, A r = some q → K (bN r)) (hF : (f45 N a0 a1 a2).bind A = some q) : ∃ d, (H45 N ds d ∧ d.flatB = true) ∧ K d := by
  obtain ⟨r, hr, hA⟩ := bind_some hF
  exact ⟨_, ⟨⟨a0, a1, a2, r, hd, hr, rfl⟩, rfl⟩, h r hA⟩
theorem G45.lend {N : Nat} {a0 : ByteArray} {a1 : List ByteArray} {a2 : Int} {ρ : Type} {A : Bool → Option ρ} {q : ρ} {ds : List D} {K : D → Prop} (hd : ds = [strN a0, sl_strN a1, iN a2]) (h : ∀ r, A r = some q → K (bN r)) (hF : (f45 N a0 a1 a2).bind A = some q) : ∃ d, (G45 ds d ∧ d.flatB = true) ∧ K d := by
  obtain ⟨r, hr, hA⟩ := bind_some hF
  exact ⟨_, ⟨⟨N, a0, a1, a2, r, hd, hr, rfl⟩, rfl⟩, h r hA⟩
set_option maxRecDepth 20000 in
set_option maxHeartbeats 4000000 in
theorem Q45 (N : Nat) : PureOK Try.prog 45 (H45 N) := by
  induction N with
  | zero =>
    rintro w Z vs ds d h1 h2 h3 hg ⟨a0, a1, a2, r, h4, h5, h6⟩
    cases h5
  | succ N ih =>
    refine pure_of_vc (c := mkCtx tyTree [(45, true, lendPg [[0], [1], [0]] (H45 N)), (44, true, lendPg [[0], [0]] G44)]) rfl tyOK (ctx_lend (callable Try.func45 rfl rfl) ih (ctx_lend (callable Try.func44 rfl rfl) P44 (ctx_nil))) [[0]] 3 Try.func45 rfl rfl (by decide) (by kernel_rfl) ?_
    rintro ds d ⟨a0, a1, a2, r, rfl, hF, rfl⟩ hok
    clear hok
    refine ⟨rfl, ?_⟩
    show vc _ _ _ _ ⟨[(0, .dat (strN a0)), (1, .dat (sl_strN a1)), (2, .dat (iN a2))], []⟩ _
    have hF : f45b (f45 N) N a0 a1 a2 = some r := hF
    unfold f45b at hF
    repeat' (first
      | ((with_reducible first | refine q0 _ _ ?_ | refine q1 _ _ _ _ ?_ | refine q2 _ _ _ ?_); clear Q q0 q1 q2)
      | ((with_reducible first | refine seq_op ?hx (fun Q q0 q1 q2 => ?_)); (case hx => exact rfl); conv => whnf)
      | ((with_reducible first | refine seq_off ?hx ?_ | refine seq_off0 ?hx ?_ | refine k_blk_out ?hx ?_ | refine vc_condT ?hx ?_); (case hx => exact rfl))
      | ((with_reducible refine seq_id ?_); (first | ((first | refine seq_opK rfl ?hy (fun Q q0 q1 q2 => ?_) | refine seq_opK0 rfl ?hy (fun Q q0 q1 q2 => ?_)); (case hy => first | assumption | exact notT (by assumption) | exact rfl); conv => whnf) | ((first | refine seq_offK rfl ?hy ?_ | refine seq_offK0 rfl ?hy ?_); (case hy => first | assumption | exact notF (by assumption) | exact rfl)) | (revert hF; (with_reducible first | refine seq_opF ?hx ?_ ?_ | refine seq_opF0 ?hx ?_ ?_); (case hx => exact rfl); (intro hc hF Q q0 q1 q2; conv => whnf); rotate_left; (intro hc hF); rotate_right) | (revert hF; (with_reducible first | refine seq_opN ?hx ?_ ?_ | refine seq_opN0 ?hx ?_ ?_); (case hx => exact rfl); (intro hc hF); rotate_left; (intro hc hF Q q0 q1 q2; conv => whnf); rotate_right)))
      | ((with_reducible refine cond_id ?_); (first | ((refine condKT rfl ?hy ?_); (case hy => first | assumption | exact notT (by assumption) | exact rfl)) | ((refine condKF rfl ?hy ?_); (case hy => first | assumption | exact notF (by assumption) | exact rfl)) | (revert hF; (with_reducible refine condF ?hx ?_ ?_); (case hx => exact rfl); all_goals (intro hc hF))))
      | ((with_reducible refine seq_nil ?_); (first | ((with_reducible refine hR _ ?_); clear R hR) | ((with_reducible refine hL _ ?_); clear L hL)))
      | ((with_reducible first | refine int_step ?_ | refine len_step ?_ | refine idx2 (by assumption) ?_ | refine idx3 (by assumption) ?_); conv => whnf)
      | (with_reducible first | refine vc_block ?_ | refine vc_skip ?_ | refine vc_ret ?_ | refine vc_exit ?_ | refine vc_region (fun R hR => ?_) | refine k_seq_ret ?_ | refine k_seq_exit ?_ | refine k_blk ?_ | refine k_blk_ret ?_ | refine k_blk_here ?_ | refine k_loop_ret ?_ | refine k_loop_exit ?_)
      | ((with_reducible refine vc_seqN [15, 7] ?hx ?_); (case hx => exact rfl))
      | (revert hF; (refine Lp.cut0 Lf45_c15 f45_c15 15 rfl rfl ?_ ?_); (intro hF); rotate_left; (rintro _ hF; dsimp only [Lf45_c15] at hF; unfold f45_c15 at hF); rotate_right)
      | exact Lp.head Ef45_c15 hF () ⟨_, rfl, rfl, rfl, rfl⟩ rfl
      | (revert hF; (refine Lp.loop Ef45_10 _ rfl ⟨_, rfl, rfl, rfl, rfl⟩ (by first | exact rfl | ((try dsimp only [Lf45_10]); first | assumption | omega | (simp only [List.length_set]; done))) (fun _ => rfl) ?_); rintro n v35 hF; dsimp only [Lf45_10, f45_10] at hF; unfold f45_10b at hF)
      | exact Lp.back Ef45_10 hF _ ⟨_, rfl, rfl, rfl, rfl⟩ (by first | exact rfl | ((try dsimp only [Lf45_10]); first | assumption | omega | (simp only [List.length_set]; done)))
      | (revert hF; (refine Lp.cut5 Lf45_c7 f45_c7 7 rfl rfl ?_ ?_); (intro hF); rotate_left; (rintro all7 hF; dsimp only [Lf45_c7] at hF; unfold f45_c7 at hF); rotate_right)
      | exact Lp.head Ef45_c7 hF () ⟨_, rfl, rfl, rfl, rfl⟩ rfl
      | (revert hF; (refine Lp.loop Ef45_3 () rfl ⟨_, rfl, rfl, rfl, rfl⟩ rfl (fun _ => rfl) ?_); rintro n ⟨all7, v14⟩ hF; dsimp only [Lf45_3, f45_3] at hF; unfold f45_3b at hF)
      | exact Lp.back Ef45_3 hF () ⟨_, rfl, rfl, rfl, rfl⟩ rfl
      | (revert hF; (with_reducible refine G44.lend ?hx ?_); (case hx => exact rfl); intro v hF; conv => whnf)
      | (revert hF; (with_reducible refine H45.lend ?hx ?_); (case hx => exact rfl); intro v hF; conv => whnf)
      | (revert hF; (refine addS_step ?_); intro x hF; conv => whnf)
      | (revert hF; (with_reducible refine idx1 ?hn ?_); (case hn => first | exact rfl | exact (List.length_map _) | assumption | omega | simp); intro x hx hF; conv => whnf)
      | ((refine row_all ?hn ?_); (case hn => first | exact rfl | (simp; done) | (simp; omega)); conv => whnf)
      | ((with_reducible refine le_step ?hn ?_); (case hn => first | exact rfl | assumption | omega); conv => whnf)
      | ((refine ⟨?hx, ?_⟩); (case hx => exact ⟨rfl, Nat.le_of_ble_eq_true rfl, rfl⟩); conv => whnf)
      | ((with_reducible refine ex_step ?_); conv => whnf)
      | ((with_reducible refine both_T ?hx ?_); (case hx => first | exact rfl | assumption | exact notT (by assumption)); conv => whnf)
      | ((with_reducible refine both_F ?hx ?_); (case hx => first | exact rfl | assumption | exact notF (by assumption)); conv => whnf)
      | (revert hF; (with_reducible refine ite_step ?_ ?_) <;> (intro hc hF; conv => whnf))
      | ((with_reducible refine vc_condF ?hx ?_); (case hx => exact rfl))
      | (show retD _ _ _ _ _ _; conv => whnf)
      | ((refine ⟨?hx, trivial⟩); (case hx => (cases hF; exact rfl)))
      | ((refine ⟨?hx, ?_⟩); (case hx => decide); conv => whnf)
      | with_reducible refine k_seq ?_
      | (have hF : (none : Option _) = some _ := hF; cases hF))
theorem P45 : PureOK Try.prog 45 G45 := PureOK.ex Q45
end
end Go.Vc
namespace Go.Vc
open Go.Proofs
set_option linter.unusedVariables false
set_option linter.unnecessarySimpa false
set_option linter.unusedSimpArgs false
section
variable {c : Ctx} {p nid : Nat} {a b : Code} {st : St} {K : Ex → St → Prop}
def f13_c30 (a1 : Int) (N : Nat) (v5 : List ByteArray) (x3 : ByteArray × Int) : Option (Bool) :=
 (sub v5 0 (Int.tmod a1 (List.length v5 : Int))).bind fun x5 =>
 (app 16 [] x5).bind fun x6 =>
 (sub v5 (W ((Int.tmod a1 (List.length v5 : Int)) + (1 : Int))) (List.length v5 : Int)).bind fun x7 =>
 (app 16 x6 x7).bind fun x8 =>
 (f35 N x8).bind fun x9 =>
 bif decide (¬ x9.2 = (0 : Int)) then (some (false))
 else (bif decide ((ByteArray.size x3.1 : Int) < (ByteArray.size x9.1 : Int)) then (some (false))
 else ((ix v5 (0 : Int)).bind fun x10 =>
 (subS x10 0 (1 : Int)).bind fun x11 =>
 (app 16 [x11] v5).bind fun x12 =>
 (f35 N x12).bind fun x13 =>
 bif decide (x13.2 = (0 : Int)) then (bif decide (x13.1 = x3.1) then ((f15 N ).bind fun x14 =>
 some (x14))
 else (some (false)))
 else (some (false))))
def Lf13_c30 (a1 : Int) (N : Nat) (v5 : List ByteArray) (x3 : ByteArray × Int) : Lp (Unit) (Nat) (Bool) := ⟨⟨[5, 14, 20], [90005], [], [90005]⟩, fun _ => [.rs 90005 (List.length v5), .dat (strN x3.1), .dat (iN (Int.tmod a1 (List.length v5 : Int)))], fun _ => [.fz 9 1 (List.map strN v5)], fun _ => f13_c30 a1 N v5 x3, fun _ m0 => [.rs 90005 m0, .dat (strN x3.1), .dat (iN (Int.tmod a1 (List.length v5 : Int)))], fun _ _ => [.fz 9 1 (List.map strN v5)], fun _ => List.length v5, fun _ => rfl, fun _ => rfl⟩
theorem Ef13_c30 {a1 N v5 x3} : (Lf13_c30 a1 N v5 x3).E () = f13_c30 a1 N v5 x3 := rfl
def f13_c28 (a1 : Int) (N : Nat) (v5 : List ByteArray) (x3 : ByteArray × Int) : Option (Bool) :=
 bif decide ((1 : Int) < (List.length v5 : Int)) then (joinK (f13_c30 a1 N v5 x3) fun k0 =>
 (chk (decide ((List.length v5 : Int) ≠ 0))).bind fun _ =>
 k0)
 else ((ix v5 (0 : Int)).bind fun x15 =>
 (subS x15 0 (1 : Int)).bind fun x16 =>
 (app 16 [x16] v5).bind fun x17 =>
 (f35 N x17).bind fun x18 =>
 bif decide (x18.2 = (0 : Int)) then (bif decide (x18.1 = x3.1) then ((f15 N ).bind fun x19 =>
 some (x19))
 else (some (false)))
 else (some (false)))
def Lf13_c28 (a1 : Int) (N : Nat) (v5 : List ByteArray) (x3 : ByteArray × Int) : Lp (Unit) (Nat) (Bool) := ⟨⟨[1, 5, 14], [90005], [], []⟩, fun _ => [.dat (u8N a1), .rs 90005 (List.length v5), .dat (strN x3.1)], fun _ => [.row 9 1 (List.map strN v5)], fun _ => f13_c28 a1 N v5 x3, fun _ m0 => [.dat (u8N a1), .rs 90005 m0, .dat (strN x3.1)], fun _ _ => [.row 9 1 (List.map strN v5)], fun _ => List.length v5, fun _ => rfl, fun _ => rfl⟩
theorem Ef13_c28 {a1 N v5 x3} : (Lf13_c28 a1 N v5 x3).E () = f13_c28 a1 N v5 x3 := rfl
def f13_c26 (a1 : Int) (N : Nat) (v5 : List ByteArray) (x3 : ByteArray × Int) : Option (Bool) :=
 joinK (f13_c28 a1 N v5 x3) fun k1 =>
 bif decide ((ByteArray.size x3.1 : Int) ≤ (9 : Int)) then ((f45 N emptyS v5 (W ((ByteArray.size x3.1 : Int) - (1 : Int)))).bind fun x20 =>
 bif x20 then (some (false))
 else k1)
 else k1
def Lf13_c26 (a1 : Int) (N : Nat) (v5 : List ByteArray) (x3 : ByteArray × Int) : Lp (Unit) (Nat) (Bool) := ⟨⟨[1, 5, 14], [90005], [], []⟩, fun _ => [.dat (u8N a1), .rs 90005 (List.length v5), .dat (strN x3.1)], fun _ => [.row 9 1 (List.map strN v5)], fun _ => f13_c26 a1 N v5 x3, fun _ m0 => [.dat (u8N a1), .rs 90005 m0, .dat (strN x3.1)], fun _ _ => [.row 9 1 (List.map strN v5)], fun _ => List.length v5, fun _ => rfl, fun _ => rfl⟩
theorem Ef13_c26 {a1 N v5 x3} : (Lf13_c26 a1 N v5 x3).E () = f13_c26 a1 N v5 x3 := rfl
def f13_21b (r21 : Int → Option (Bool)) (a1 : Int) (N : Nat) (v5 : List ByteArray) (x3 : ByteArray × Int) (k2 : Option (Bool)) (v112 : Int) : Option (Bool) :=
 bif decide (v112 < (List.length v5 : Int)) then ((ix v5 v112).bind fun x21 =>
 (f44 N x3.1 x21).bind fun x22 =>
 bif !x22 then (some (false))
 else (r21 (W (v112 + (1 : Int)))))
 else k2
def f13_21 (a1 : Int) (N : Nat) (v5 : List ByteArray) (x3 : ByteArray × Int) (k2 : Option (Bool)) : Nat → Int → Option (Bool)
  | 0, _ => none
  | n + 1, v112 => f13_21b (f13_21 a1 N v5 x3 k2 n) a1 N v5 x3 k2 v112
def Lf13_21 (a1 : Int) (N : Nat) (v5 : List ByteArray) (x3 : ByteArray × Int) (k2 : Option (Bool)) : Lp (Nat × Int) (Nat × Nat) (Bool) := ⟨⟨[1, 5, 14, 110, 111, 112], [90005], [], []⟩, fun (_, v112) => [.dat (u8N a1), .rs 90005 (List.length v5), .dat (strN x3.1), .rs 90005 (List.length v5), .dat (iN (List.length v5 : Int)), .dat (iN v112)], fun (_, _) => [.row 9 1 (List.map strN v5)], fun (n, v112) => f13_21 a1 N v5 x3 k2 n v112, fun (_, v112) (m0, m1) => [.dat (u8N a1), .rs 90005 m0, .dat (strN x3.1), .rs 90005 m1, .dat (iN (List.length v5 : Int)), .dat (iN v112)], fun (_, _) (_, _) => [.row 9 1 (List.map strN v5)], fun (_, _) => (List.length v5, List.length v5), fun _ => rfl, fun _ => rfl⟩
theorem Ef13_21 {a1 N v5 x3 k2 n v112} : (Lf13_21 a1 N v5 x3 k2).E (n, v112) = f13_21 a1 N v5 x3 k2 n v112 := rfl
def f13_c13 (a1 : Int) (N : Nat) (v5 : List ByteArray) (v6 : List ByteArray) (v7 : Int) : Option (Bool) :=
 bif decide ((List.length v5 : Int) = (0 : Int)) then ((f35 N v5).bind fun x1 =>
 bif decide (x1.2 = (1 : Int)) then ((f15 N ).bind fun x2 =>
 some (x2))
 else (some (false)))
 else ((f35 N v5).bind fun x3 =>
 (f35 N v6).bind fun x4 =>
 bif decide (¬ x3.2 = (0 : Int)) then (some (false))
 else (bif decide (¬ x4.2 = (0 : Int)) then (some (false))
 else (bif decide ((ByteArray.size x3.1 : Int) < (1 : Int)) then (some (false))
 else (bif decide (v7 < (ByteArray.size x3.1 : Int)) then (some (false))
 else (bif decide (¬ (ByteArray.size x4.1 : Int) = (ByteArray.size x3.1 : Int)) then (some (false))
 else (joinK (f13_c26 a1 N v5 x3) fun k2 =>
 f13_21 a1 N v5 x3 k2 N (0 : Int)))))))
def Lf13_c13 (a1 : Int) (N : Nat) : Lp ((List ByteArray) × (List ByteArray) × Int) (Nat × Nat) (Bool) := ⟨⟨[1, 5, 6, 7], [90005, 90006], [(.slot 5, 90005, 9, 1), (.slot 6, 90006, 9, 1)], []⟩, fun (v5, v6, v7) => [.dat (u8N a1), .rs 90005 (List.length v5), .rs 90006 (List.length v6), .dat (iN v7)], fun (v5, v6, _) => [.row 9 1 (List.map strN v5), .row 9 1 (List.map strN v6)], fun (v5, v6, v7) => f13_c13 a1 N v5 v6 v7, fun (_, _, v7) (m0, m1) => [.dat (u8N a1), .rs 90005 m0, .rs 90006 m1, .dat (iN v7)], fun (v5, v6, _) (_, _) => [.row 9 1 (List.map strN v5), .row 9 1 (List.map strN v6)], fun (v5, v6, _) => (List.length v5, List.length v6), fun _ => rfl, fun _ => rfl⟩
theorem Ef13_c13 {a1 N v5 v6 v7} : (Lf13_c13 a1 N).E (v5, v6, v7) = f13_c13 a1 N v5 v6 v7 := rfl
def f13_c5 (a0 : List (List Int)) (a1 : Int) (v8 : Int) (r4 : (List ByteArray) → (List ByteArray) → Int → Int → Option (Bool)) (v5' : List ByteArray) (v6' : List ByteArray) (v7' : Int) : Option (Bool) :=
 r4 (v5') (v6') (v7') (W (v8 + (1 : Int)))
def Lf13_c5 (a0 : List (List Int)) (a1 : Int) (v8 : Int) (r4 : (List ByteArray) → (List ByteArray) → Int → Int → Option (Bool)) : Lp ((List ByteArray) × (List ByteArray) × Int) (Nat × Nat) (Bool) := ⟨⟨[0, 1, 5, 6, 7, 8], [90005, 90006], [(.slot 5, 90005, 9, 1), (.slot 6, 90006, 9, 1)], []⟩, fun (v5', v6', v7') => [.dat (sl_sl_u8N a0), .dat (u8N a1), .rs 90005 (List.length (v5')), .rs 90006 (List.length (v6')), .dat (iN (v7')), .dat (iN v8)], fun (v5', v6', _) => [.row 9 1 (List.map strN (v5')), .row 9 1 (List.map strN (v6'))], fun (v5', v6', v7') => f13_c5 a0 a1 v8 r4 v5' v6' v7', fun (_, _, v7') (m0, m1) => [.dat (sl_sl_u8N a0), .dat (u8N a1), .rs 90005 m0, .rs 90006 m1, .dat (iN (v7')), .dat (iN v8)], fun (v5', v6', _) (_, _) => [.row 9 1 (List.map strN (v5')), .row 9 1 (List.map strN (v6'))], fun (v5', v6', _) => (List.length (v5'), List.length (v6')), fun _ => rfl, fun _ => rfl⟩
theorem Ef13_c5 {a0 a1 v8 r4 v5' v6' v7'} : (Lf13_c5 a0 a1 v8 r4).E (v5', v6', v7') = f13_c5 a0 a1 v8 r4 v5' v6' v7' := rfl
def f13_c11 (a0 : List (List Int)) (a1 : Int) (v5 : List ByteArray) (v6 : List ByteArray) (v7 : Int) (v8 : Int) (k4 : (List ByteArray) → (List ByteArray) → Int → Option (Bool)) (x24 : ByteArray) (v10 : ByteArray) : Option (Bool) :=
 (app 16 v5 [x24]).bind fun x25 =>
 (app 16 v6 [v10]).bind fun x26 =>
 k4 x25 x26 (W (v7 + (ByteArray.size x24 : Int)))
def Lf13_c11 (a0 : List (List Int)) (a1 : Int) (v5 : List ByteArray) (v6 : List ByteArray) (v7 : Int) (v8 : Int) (k4 : (List ByteArray) → (List ByteArray) → Int → Option (Bool)) (x24 : ByteArray) : Lp (ByteArray) (Nat × Nat) (Bool) := ⟨⟨[0, 1, 5, 6, 7, 8, 9, 10], [90005, 90006], [], []⟩, fun v10 => [.dat (sl_sl_u8N a0), .dat (u8N a1), .rs 90005 (List.length v5), .rs 90006 (List.length v6), .dat (iN v7), .dat (iN v8), .dat (strN x24), .dat (strN v10)], fun _ => [.row 9 1 (List.map strN v5), .row 9 1 (List.map strN v6)], fun v10 => f13_c11 a0 a1 v5 v6 v7 v8 k4 x24 v10, fun v10 (m0, m1) => [.dat (sl_sl_u8N a0), .dat (u8N a1), .rs 90005 m0, .rs 90006 m1, .dat (iN v7), .dat (iN v8), .dat (strN x24), .dat (strN v10)], fun _ (_, _) => [.row 9 1 (List.map strN v5), .row 9 1 (List.map strN v6)], fun _ => (List.length v5, List.length v6), fun _ => rfl, fun _ => rfl⟩
theorem Ef13_c11 {a0 a1 v5 v6 v7 v8 k4 x24 v10} : (Lf13_c11 a0 a1 v5 v6 v7 v8 k4 x24).E v10 = f13_c11 a0 a1 v5 v6 v7 v8 k4 x24 v10 := rfl
def f13_8b (r8 : ByteArray → Nat → Option (Bool)) (a0 : List (List Int)) (a1 : Int) (v5 : List ByteArray) (v6 : List ByteArray) (v7 : Int) (v8 : Int) (x24 : ByteArray) (k5 : ByteArray → Option (Bool)) (v10 : ByteArray) (p701 : Nat) : Option (Bool) :=
 bif decide (p701 < ByteArray.size x24) then ((some (runeAt x24 p701)).bind fun x27 =>
 (subS x24 (((p701 : Nat) : Int) : Int) (ByteArray.size x24 : Int)).bind fun x28 =>
 (subS x28 0 (1 : Int)).bind fun x29 =>
 (addS x29 v10).bind fun x30 =>
 r8 x30 x27.2)
 else (k5 v10)
def f13_8 (a0 : List (List Int)) (a1 : Int) (v5 : List ByteArray) (v6 : List ByteArray) (v7 : Int) (v8 : Int) (x24 : ByteArray) (k5 : ByteArray → Option (Bool)) : Nat → ByteArray → Nat → Option (Bool)
  | 0, _, _ => none
  | n + 1, v10, p701 => f13_8b (f13_8 a0 a1 v5 v6 v7 v8 x24 k5 n) a0 a1 v5 v6 v7 v8 x24 k5 v10 p701
def Lf13_8 (a0 : List (List Int)) (a1 : Int) (v5 : List ByteArray) (v6 : List ByteArray) (v7 : Int) (v8 : Int) (x24 : ByteArray) (k5 : ByteArray → Option (Bool)) : Lp (Nat × ByteArray × Nat) (Nat × Nat) (Bool) := ⟨⟨[0, 1, 5, 6, 7, 8, 9, 10, 41], [701, 90005, 90006], [], []⟩, fun (_, v10, _) => [.dat (sl_sl_u8N a0), .dat (u8N a1), .rs 90005 (List.length v5), .rs 90006 (List.length v6), .dat (iN v7), .dat (iN v8), .dat (strN x24), .dat (strN v10), .ptr 701 0], fun (_, _, p701) => [.sit x24 p701, .row 9 1 (List.map strN v5), .row 9 1 (List.map strN v6)], fun (n, v10, p701) => f13_8 a0 a1 v5 v6 v7 v8 x24 k5 n v10 p701, fun (_, v10, _) (m0, m1) => [.dat (sl_sl_u8N a0), .dat (u8N a1), .rs 90005 m0, .rs 90006 m1, .dat (iN v7), .dat (iN v8), .dat (strN x24), .dat (strN v10), .ptr 701 0], fun (_, _, p701) (_, _) => [.sit x24 p701, .row 9 1 (List.map strN v5), .row 9 1 (List.map strN v6)], fun (_, _, _) => (List.length v5, List.length v6), fun _ => rfl, fun _ => rfl⟩
theorem Ef13_8 {a0 a1 v5 v6 v7 v8 x24 k5 n v10 p701} : (Lf13_8 a0 a1 v5 v6 v7 v8 x24 k5).E (n, v10, p701) = f13_8 a0 a1 v5 v6 v7 v8 x24 k5 n v10 p701 := rfl
def f13_4b (r4 : (List ByteArray) → (List ByteArray) → Int → Int → Option (Bool)) (a0 : List (List Int)) (a1 : Int) (N : Nat) (k3 : (List ByteArray) → (List ByteArray) → Int → Option (Bool)) (v5 : List ByteArray) (v6 : List ByteArray) (v7 : Int) (v8 : Int) : Option (Bool) :=
 bif decide (v8 < (List.length a0 : Int)) then (bif decide (v8 < (4 : Int)) then (joinK (f13_c5 a0 a1 v8 r4) fun k4 =>
 (ix a0 v8).bind fun x23 =>
 (f41 N x23 (3 : Int)).bind fun x24 =>
 joinK (f13_c11 a0 a1 v5 v6 v7 v8 k4 x24) fun k5 =>
 f13_8 a0 a1 v5 v6 v7 v8 x24 k5 N emptyS 0)
 else (k3 v5 v6 v7))
 else (k3 v5 v6 v7)
def f13_4 (a0 : List (List Int)) (a1 : Int) (N : Nat) (k3 : (List ByteArray) → (List ByteArray) → Int → Option (Bool)) : Nat → (List ByteArray) → (List ByteArray) → Int → Int → Option (Bool)
  | 0, _, _, _, _ => none
  | n + 1, v5, v6, v7, v8 => f13_4b (f13_4 a0 a1 N k3 n) a0 a1 N k3 v5 v6 v7 v8
def Lf13_4 (a0 : List (List Int)) (a1 : Int) (N : Nat) (k3 : (List ByteArray) → (List ByteArray) → Int → Option (Bool)) : Lp (Nat × (List ByteArray) × (List ByteArray) × Int × Int) (Nat × Nat) (Bool) := ⟨⟨[0, 1, 5, 6, 7, 8], [90005, 90006], [(.slot 5, 90005, 9, 1), (.slot 6, 90006, 9, 1)], []⟩, fun (_, v5, v6, v7, v8) => [.dat (sl_sl_u8N a0), .dat (u8N a1), .rs 90005 (List.length v5), .rs 90006 (List.length v6), .dat (iN v7), .dat (iN v8)], fun (_, v5, v6, _, _) => [.row 9 1 (List.map strN v5), .row 9 1 (List.map strN v6)], fun (n, v5, v6, v7, v8) => f13_4 a0 a1 N k3 n v5 v6 v7 v8, fun (_, _, _, v7, v8) (m0, m1) => [.dat (sl_sl_u8N a0), .dat (u8N a1), .rs 90005 m0, .rs 90006 m1, .dat (iN v7), .dat (iN v8)], fun (_, v5, v6, _, _) (_, _) => [.row 9 1 (List.map strN v5), .row 9 1 (List.map strN v6)], fun (_, v5, v6, _, _) => (List.length v5, List.length v6), fun _ => rfl, fun _ => rfl⟩
theorem Ef13_4 {a0 a1 N k3 n v5 v6 v7 v8} : (Lf13_4 a0 a1 N k3).E (n, v5, v6, v7, v8) = f13_4 a0 a1 N k3 n v5 v6 v7 v8 := rfl
def f13 (N : Nat) (a0 : List (List Int)) (a1 : Int) : Option (Bool) :=
 joinK (f13_c13 a1 N) fun k3 =>
 f13_4 a0 a1 N k3 N [] [] (0 : Int) (0 : Int)
def G13 (ds : List D) (d : D) : Prop := ∃ (N : Nat) (a0 : List (List Int)) (a1 : Int) (r : Bool), ds = [sl_sl_u8N a0, u8N a1] ∧ f13 N a0 a1 = some r ∧ d = bN r
set_option maxRecDepth 20000 in
set_option maxHeartbeats 4000000 in
theorem P13 : PureOK Try.prog 13 G13 := by
  refine pure_of_vc (c := mkCtx tyTree [(45, true, lendPg [[0], [1], [0]] G45), (44, true, lendPg [[0], [0]] G44), (41, true, lendPg [[1], [0]] G41), (35, true, lendPg [[1]] G35), (15, true, lendPg [] G15)]) rfl tyOK (ctx_lend (callable Try.func45 rfl rfl) P45 (ctx_lend (callable Try.func44 rfl rfl) P44 (ctx_lend (callable Try.func41 rfl rfl) P41 (ctx_lend (callable Try.func35 rfl rfl) P35 (ctx_lend (callable Try.func15 rfl rfl) P15 (ctx_nil)))))) [[0]] 2 Try.func13 rfl rfl (by decide) (by kernel_rfl) ?_
  rintro ds d ⟨N, a0, a1, r, rfl, hF, rfl⟩ hok
  clear hok
  refine ⟨rfl, ?_⟩
  show vc _ _ _ _ ⟨[(0, .dat (sl_sl_u8N a0)), (1, .dat (u8N a1))], []⟩ _
  unfold f13 at hF
  repeat' (first
    | ((with_reducible first | refine q0 _ _ ?_ | refine q1 _ _ _ _ ?_ | refine q2 _ _ _ ?_); clear Q q0 q1 q2)
    | ((with_reducible first | refine seq_op ?hx (fun Q q0 q1 q2 => ?_) | refine draw_op ?hx (fun Q q0 q1 q2 => ?_)); (case hx => exact rfl); conv => whnf)
    | ((with_reducible first | refine seq_off ?hx ?_ | refine seq_off0 ?hx ?_ | refine draw_off ?hx ?_ | refine draw_off0 ?hx ?_ | refine k_blk_out ?hx ?_ | refine vc_condT ?hx ?_); (case hx => exact rfl))
    | ((with_reducible refine seq_id ?_); (first | ((first | refine seq_opK rfl ?hy (fun Q q0 q1 q2 => ?_) | refine seq_opK0 rfl ?hy (fun Q q0 q1 q2 => ?_)); (case hy => first | assumption | exact notT (by assumption) | exact rfl); conv => whnf) | ((first | refine seq_offK rfl ?hy ?_ | refine seq_offK0 rfl ?hy ?_); (case hy => first | assumption | exact notF (by assumption) | exact rfl)) | (revert hF; (with_reducible first | refine seq_opF ?hx ?_ ?_ | refine seq_opF0 ?hx ?_ ?_); (case hx => exact rfl); (intro hc hF Q q0 q1 q2; conv => whnf); rotate_left; (intro hc hF); rotate_right) | (revert hF; (with_reducible first | refine seq_opN ?hx ?_ ?_ | refine seq_opN0 ?hx ?_ ?_); (case hx => exact rfl); (intro hc hF); rotate_left; (intro hc hF Q q0 q1 q2; conv => whnf); rotate_right)))
    | ((with_reducible refine cond_id ?_); (first | ((refine condKT rfl ?hy ?_); (case hy => first | assumption | exact notT (by assumption) | exact rfl)) | ((refine condKF rfl ?hy ?_); (case hy => first | assumption | exact notF (by assumption) | exact rfl)) | (revert hF; (with_reducible refine condF ?hx ?_ ?_); (case hx => exact rfl); all_goals (intro hc hF))))
    | ((with_reducible refine seq_nil ?_); (first | ((with_reducible refine hR _ ?_); clear R hR) | ((with_reducible refine hL _ ?_); clear L hL)))
    | ((with_reducible refine draw_nil ?_); (with_reducible refine hR _ _ ?hx ?_); (case hx => kernel_rfl); (first | clear R hR | clear hR))
    | ((with_reducible first | refine int_step ?_ | refine len_step ?_ | refine idx2 (by assumption) ?_ | refine idx3 (by assumption) ?_); conv => whnf)
    | (with_reducible first | refine vc_block ?_ | refine vc_skip ?_ | refine vc_ret ?_ | refine vc_exit ?_ | refine vc_region (fun R hR => ?_) | refine k_seq_ret ?_ | refine k_seq_exit ?_ | refine k_blk ?_ | refine k_blk_ret ?_ | refine k_blk_here ?_ | refine k_loop_ret ?_ | refine k_loop_exit ?_)
    | ((with_reducible refine vc_seqN [30, 28, 26, 13, 5, 11] ?hx ?_); (case hx => exact rfl))
    | ((with_reducible refine vc_draw ?hx (fun R hR => ?_)); (case hx => exact rfl))
    | (revert hF; (refine Lp.cut4 Lf13_c30 f13_c30 30 rfl rfl ?_ ?_); (intro hF); rotate_left; (rintro _ hF; dsimp only [Lf13_c30] at hF; unfold f13_c30 at hF); rotate_right)
    | exact Lp.head Ef13_c30 hF _ ⟨_, rfl, rfl, rfl, rfl⟩ (by first | exact rfl | ((try dsimp only [Lf13_c30]); first | assumption | omega | (simp only [List.length_set]; done)))
    | (revert hF; (refine Lp.cut4 Lf13_c28 f13_c28 28 rfl rfl ?_ ?_); (intro hF); rotate_left; (rintro _ hF; dsimp only [Lf13_c28] at hF; unfold f13_c28 at hF); rotate_right)
    | exact Lp.head Ef13_c28 hF _ ⟨_, rfl, rfl, rfl, rfl⟩ (by first | exact rfl | ((try dsimp only [Lf13_c28]); first | assumption | omega | (simp only [List.length_set]; done)))
    | (revert hF; (refine Lp.cut4 Lf13_c26 f13_c26 26 rfl rfl ?_ ?_); (intro hF); rotate_left; (rintro _ hF; dsimp only [Lf13_c26] at hF; unfold f13_c26 at hF); rotate_right)
    | exact Lp.head Ef13_c26 hF _ ⟨_, rfl, rfl, rfl, rfl⟩ (by first | exact rfl | ((try dsimp only [Lf13_c26]); first | assumption | omega | (simp only [List.length_set]; done)))
    | (revert hF; (refine Lp.loop Ef13_21 (_, _) rfl ⟨_, rfl, rfl, rfl, rfl⟩ (pr2 (by first | exact rfl | ((try dsimp only [Lf13_21]); first | assumption | omega | (simp only [List.length_set]; done))) (by first | exact rfl | ((try dsimp only [Lf13_21]); first | assumption | omega | (simp only [List.length_set]; done)))) (fun _ => rfl) ?_); rintro n v112 hF; dsimp only [Lf13_21, f13_21] at hF; unfold f13_21b at hF)
    | exact Lp.back Ef13_21 hF (_, _) ⟨_, rfl, rfl, rfl, rfl⟩ (pr2 (by first | exact rfl | ((try dsimp only [Lf13_21]); first | assumption | omega | (simp only [List.length_set]; done))) (by first | exact rfl | ((try dsimp only [Lf13_21]); first | assumption | omega | (simp only [List.length_set]; done))))
    | (revert hF; (refine Lp.cut2 Lf13_c13 f13_c13 13 rfl rfl ?_ ?_); (intro hF); rotate_left; (rintro ⟨v5, v6, v7⟩ hF; dsimp only [Lf13_c13] at hF; unfold f13_c13 at hF); rotate_right)
    | exact Lp.head Ef13_c13 hF (_, _) ⟨_, rfl, rfl, rfl, rfl⟩ (pr2 (by first | exact rfl | ((try dsimp only [Lf13_c13]); first | assumption | omega | (simp only [List.length_set]; done))) (by first | exact rfl | ((try dsimp only [Lf13_c13]); first | assumption | omega | (simp only [List.length_set]; done))))
    | (revert hF; (refine Lp.cut4 Lf13_c5 f13_c5 5 rfl rfl ?_ ?_); (intro hF); rotate_left; (rintro ⟨v5', v6', v7'⟩ hF; dsimp only [Lf13_c5] at hF; unfold f13_c5 at hF); rotate_right)
    | exact Lp.head Ef13_c5 hF (_, _) ⟨_, rfl, rfl, rfl, rfl⟩ (pr2 (by first | exact rfl | ((try dsimp only [Lf13_c5]); first | assumption | omega | (simp only [List.length_set]; done))) (by first | exact rfl | ((try dsimp only [Lf13_c5]); first | assumption | omega | (simp only [List.length_set]; done))))
    | (revert hF; (refine Lp.cut8 Lf13_c11 f13_c11 11 rfl rfl ?_ ?_); (intro hF); rotate_left; (rintro v10 hF; dsimp only [Lf13_c11] at hF; unfold f13_c11 at hF); rotate_right)
    | exact Lp.head Ef13_c11 hF (_, _) ⟨_, rfl, rfl, rfl, rfl⟩ (pr2 (by first | exact rfl | ((try dsimp only [Lf13_c11]); first | assumption | omega | (simp only [List.length_set]; done))) (by first | exact rfl | ((try dsimp only [Lf13_c11]); first | assumption | omega | (simp only [List.length_set]; done))))
    | (revert hF; (refine Lp.loop Ef13_8 (_, _) rfl ⟨_, rfl, rfl, rfl, rfl⟩ (pr2 (by first | exact rfl | ((try dsimp only [Lf13_8]); first | assumption | omega | (simp only [List.length_set]; done))) (by first | exact rfl | ((try dsimp only [Lf13_8]); first | assumption | omega | (simp only [List.length_set]; done)))) (fun _ => rfl) ?_); rintro n ⟨v10, p701⟩ hF; dsimp only [Lf13_8, f13_8] at hF; unfold f13_8b at hF)
    | exact Lp.back Ef13_8 hF (_, _) ⟨_, rfl, rfl, rfl, rfl⟩ (pr2 (by first | exact rfl | ((try dsimp only [Lf13_8]); first | assumption | omega | (simp only [List.length_set]; done))) (by first | exact rfl | ((try dsimp only [Lf13_8]); first | assumption | omega | (simp only [List.length_set]; done))))
    | (revert hF; (refine Lp.loop Ef13_4 (_, _) rfl ⟨_, rfl, rfl, rfl, rfl⟩ (pr2 (by first | exact rfl | ((try dsimp only [Lf13_4]); first | assumption | omega | (simp only [List.length_set]; done))) (by first | exact rfl | ((try dsimp only [Lf13_4]); first | assumption | omega | (simp only [List.length_set]; done)))) (fun _ => rfl) ?_); rintro n ⟨v5, v6, v7, v8⟩ hF; dsimp only [Lf13_4, f13_4] at hF; unfold f13_4b at hF)
    | exact Lp.back Ef13_4 hF (_, _) ⟨_, rfl, rfl, rfl, rfl⟩ (pr2 (by first | exact rfl | ((try dsimp only [Lf13_4]); first | assumption | omega | (simp only [List.length_set]; done))) (by first | exact rfl | ((try dsimp only [Lf13_4]); first | assumption | omega | (simp only [List.length_set]; done))))
    | (revert hF; (with_reducible refine G15.lend ?hx ?_); (case hx => exact rfl); intro v hF; conv => whnf)
    | (revert hF; (with_reducible refine G35.lend ?hx ?_); (case hx => exact rfl); intro v hF; conv => whnf)
    | (revert hF; (with_reducible refine G41.lend ?hx ?_); (case hx => exact rfl); intro v hF; conv => whnf)
    | (revert hF; (with_reducible refine G44.lend ?hx ?_); (case hx => exact rfl); intro v hF; conv => whnf)
    | (revert hF; (with_reducible refine G45.lend ?hx ?_); (case hx => exact rfl); intro v hF; conv => whnf)
    | (revert hF; (refine subS_step ?_); intro x hF; conv => whnf)
    | (revert hF; (refine addS_step ?_); intro x hF; conv => whnf)
    | (revert hF; (refine some_step ?_); intro x hF; conv => whnf)
    | (revert hF; (with_reducible refine idx1 ?hn ?_); (case hn => first | exact rfl | exact (List.length_map _) | assumption | omega | simp); intro x hx hF; conv => whnf)
    | ((with_reducible have hG := sub_fact hF); clear hF; (refine sub_step hG (fun q hF => ?_)); clear hG; conv => whnf)
    | ((with_reducible refine Or.inr ?_); conv => whnf)
    | ((with_reducible have hG := app_fact hF); clear hF; (first | ((refine app_row hG ?hn ?hs (fun q hF => ?_)); (case hn => first | exact rfl | assumption | omega); (case hs => exact rfl)) | ((refine app_nil (d := strN) hG ?hs (fun q hF => ?_)); (case hs => exact rfl)) | ((refine app_gen (d := strN) hG ?ho ?hn ?hs (fun q hF => ?_)); (case ho => exact rfl); (case hn => exact rfl); (case hs => exact rfl))); clear hG; conv => whnf)
    | ((refine row_all ?hn ?_); (case hn => first | exact rfl | (simp; done) | (simp; omega)); conv => whnf)
    | ((with_reducible refine le_step ?hn ?_); (case hn => first | exact rfl | assumption | omega); conv => whnf)
    | ((refine ⟨?hx, ?_⟩); (case hx => exact ⟨rfl, Nat.le_of_ble_eq_true rfl, rfl⟩); conv => whnf)
    | ((with_reducible refine ex_step ?_); conv => whnf)
    | ((with_reducible have hG := chk_fact hF); clear hF; (refine ⟨?hx, ?_⟩); (case hx => (first | exact of_decide_eq_true hG.1 | exact hG.1)); have hF := hG.2; clear hG; conv => whnf)
    | ((with_reducible refine both_T ?hx ?_); (case hx => first | exact rfl | assumption | exact notT (by assumption)); conv => whnf)
    | ((with_reducible refine both_F ?hx ?_); (case hx => first | exact rfl | assumption | exact notF (by assumption)); conv => whnf)
    | (revert hF; (with_reducible refine ite_step ?_ ?_) <;> (intro hc hF; conv => whnf))
    | ((with_reducible refine vc_condF ?hx ?_); (case hx => exact rfl))
    | (show retD _ _ _ _ _ _; conv => whnf)
    | ((refine ⟨?hx, trivial⟩); (case hx => (cases hF; exact rfl)))
    | ((refine ⟨?hx, ?_⟩); (case hx => decide); conv => whnf)
    | with_reducible refine k_seq ?_
    | (have hF : (none : Option _) = some _ := hF; cases hF))
end
end Go.Vc
namespace Go.Vc
set_option linter.unusedVariables false
set_option linter.unnecessarySimpa false
set_option linter.unusedSimpArgs false
section
variable {α β σ : Type}
open Classical in
theorem loop_ex {F : Nat → Int → Option β} {k0 e : Option β} {p : Nat → Prop} (len : Nat)
    (hs : ∀ n i, i < len → F (n + 1) (i : Int) = if p i then e else F n ((i + 1 : Nat) : Int)) (he : ∀ n, F (n + 1) (len : Int) = k0) :
    ∀ n i, i ≤ len → len - i < n → F n (i : Int) = if (∃ j, i ≤ j ∧ j < len ∧ p j) then e else k0 := by
  intro n
  induction n with
  | zero => intro i _ h; omega
  | succ n ih =>
    intro i hi hn
    by_cases h : i = len
    · subst h
      rw [he, if_neg]
      rintro ⟨j, h1, h2, _⟩; omega
    · rw [hs n i (by omega)]
      by_cases hp : p i
      · rw [if_pos hp, if_pos ⟨i, Nat.le_refl _, by omega, hp⟩]
      · rw [if_neg hp, ih (i + 1) (by omega) (by omega)]
        by_cases hx : ∃ j, i + 1 ≤ j ∧ j < len ∧ p j
        · obtain ⟨j, h1, h2, h3⟩ := hx
          rw [if_pos ⟨j, h1, h2, h3⟩, if_pos ⟨j, by omega, h2, h3⟩]
        · rw [if_neg hx, if_neg]
          rintro ⟨j, h1, h2, h3⟩
          by_cases hj : j = i
          · subst hj; exact hp h3
          · exact hx ⟨j, by omega, h2, h3⟩
open Classical in
theorem loop_ex0 {F : Nat → Int → Option β} {k0 e : Option β} {p : Nat → Prop} (len : Nat)
    (hs : ∀ n i, i < len → F (n + 1) (i : Int) = if p i then e else F n ((i + 1 : Nat) : Int)) (he : ∀ n, F (n + 1) (len : Int) = k0) {n : Nat} (hn : len < n) :
    F n 0 = if (∃ j, j < len ∧ p j) then e else k0 := by
  have := loop_ex len hs he n 0 (by omega) (by omega)
  rw [show ((0 : Nat) : Int) = 0 from rfl] at this
  rw [this]
  by_cases h : ∃ j, j < len ∧ p j
  · obtain ⟨j, h1, h2⟩ := h
    rw [if_pos ⟨j, by omega, h1, h2⟩, if_pos ⟨j, h1, h2⟩]
  · rw [if_neg h, if_neg]
    rintro ⟨j, _, h1, h2⟩; exact h ⟨j, h1, h2⟩
end
end Go.Vc
namespace Go.Vc
open Go.Proofs
set_option linter.unusedVariables false
set_option linter.unnecessarySimpa false
set_option linter.unusedSimpArgs false
end Go.Vc
namespace Go.Vc
open Go.Proofs
set_option linter.unusedVariables false
set_option linter.unnecessarySimpa false
set_option linter.unusedSimpArgs false
end Go.Vc
namespace Go.Vc
set_option linter.unusedVariables false
set_option linter.unnecessarySimpa false
set_option linter.unusedSimpArgs false
set_option linter.unusedSimpArgs false
section
variable {l m : List UInt8}
@[simp] theorem strC_size : (strC l).size = l.length := by simp [strC, ByteArray.size]
@[simp] theorem strC_toList : (strC l).data.toList = l := by simp [strC]
theorem strC_inj : strC l = strC m ↔ l = m := by
  constructor
  · intro h
    have := congrArg (fun s : ByteArray => s.data.toList) h
    simpa using this
  · rintro rfl; rfl
theorem emptyS_eq : emptyS = strC [] := rfl
theorem extract_L {a b : Nat} : (strC l).extract a b = strC ((l.take b).drop a) := by
  have h : ∀ s : ByteArray, s = strC s.data.toList := fun s => by cases s; simp [strC]
  rw [h ((strC l).extract a b)]
  simp [ByteArray.data_extract, List.drop_take, strC]
theorem subS_L {a b : Nat} (h : a ≤ b) (h' : b ≤ l.length) : subS (strC l) (a : Int) (b : Int) = some (strC ((l.take b).drop a)) := by
  unfold subS
  rw [if_pos ⟨by omega, by omega, by simp; omega⟩]
  simp only [Int.toNat_natCast, subStr, extract_L]
theorem append_L : strC l ++ strC m = strC (l ++ m) := by
  have h : ∀ s : ByteArray, s = strC s.data.toList := fun s => by cases s; simp [strC]
  rw [h (strC l ++ strC m)]
  simp [strC]
theorem addS_L (h : l.length + m.length ≤ 1000000) : addS (strC l) (strC m) = some (strC (l ++ m)) := by
  unfold addS
  rw [if_pos (by simp [maxLen]; omega), append_L]
theorem byteAt_L {i : Nat} (h : i < l.length) : byteAt (strC l) i = (l[i].toNat : Int) := by
  unfold byteAt
  simp [h]
theorem toNat_inj {a b : UInt8} : (a.toNat : Int) = (b.toNat : Int) ↔ a = b := by
  constructor
  · intro h; exact UInt8.toNat_inj.1 (by omega)
  · rintro rfl; rfl
theorem rune_lo {p : Nat} (h : p < l.length) (hb : l[p].toNat < 128) : runeAt (strC l) p = ((l[p].toNat : Int), p + 1) := by
  have hs : p < (strC l).size := by simpa using h
  have he : (strC l)[p] = l[p] := by
    have h1 : byteAt (strC l) p = _ := (str_get (strC l) p hs).2.symm
    have h2 := byteAt_L h
    exact toNat_inj.1 (h1.symm.trans h2)
  unfold runeAt
  rw [decode_ascii (strC l) p hs (by rw [he]; omega)]
  simp only [he]
  rfl
theorem rune_hi {p : Nat} (h : p < l.length) (hb : 128 ≤ l[p].toNat) : 128 ≤ (runeAt (strC l) p).1 := by
  have hs : p < (strC l).size := by simpa using h
  have he : (strC l)[p] = l[p] := by
    have h1 : byteAt (strC l) p = _ := (str_get (strC l) p hs).2.symm
    have h2 := byteAt_L h
    exact toNat_inj.1 (h1.symm.trans h2)
  have := (decode_high (strC l) p hs (by rw [he]; omega)).1
  show (128 : Int) ≤ ((Utf8.decode (strC l) p).1 : Int)
  omega
end
def okb (b : UInt8) : Bool := decide (97 ≤ b.toNat) && decide (b.toNat ≤ 122)
def chk8 (l : List UInt8) : Int := if l = [] then 1 else if 24 < l.length then 19 else if l.all okb then 0 else 9
theorem drop_all {l : List UInt8} {p : Nat} (h : p < l.length) : (l.drop p).all okb = (okb l[p] && (l.drop (p + 1)).all okb) := by
  rw [List.drop_eq_getElem_cons h]; rfl
theorem okb_lo {b : UInt8} (h : (b.toNat : Int) < 97) : okb b = false := by simp [okb]; omega
theorem okb_hi {b : UInt8} (h : (122 : Int) < (b.toNat : Int)) : okb b = false := by simp [okb]; omega
theorem okb_in {b : UInt8} (h : ¬ (b.toNat : Int) < 97) (h' : ¬ (122 : Int) < (b.toNat : Int)) : okb b = true := by simp [okb]; omega
theorem f23_loop {l : List UInt8} {k0 : Option Int} : ∀ (n p : Nat), l.length - p < n → p ≤ l.length → f23_6 (strC l) k0 n p = if (l.drop p).all okb then k0 else some 9 := by
  intro n
  induction n with
  | zero => intro p h; omega
  | succ n ih =>
    intro p hn hp
    unfold f23_6 f23_6b
    by_cases h : p < l.length
    · simp only [strC_size, h, decide_true, cond_true, Option.bind_some]
      rw [drop_all h]
      by_cases hb : l[p].toNat < 128
      · rw [rune_lo h hb]
        by_cases h1 : (l[p].toNat : Int) < 97
        · simp [h1, okb_lo h1]
        · by_cases h2 : (122 : Int) < l[p].toNat
          · simp [h1, h2, okb_hi h2]
          · simp only [h1, h2, decide_false, cond_false, okb_in h1 h2, Bool.true_and]
            rw [ih (p + 1) (by omega) (by omega)]
      · have := rune_hi h (by omega)
        simp only [show ¬ (runeAt (strC l) p).1 < 97 by omega, show (122 : Int) < (runeAt (strC l) p).1 by omega, decide_false, decide_true, cond_false, cond_true]
        rw [okb_hi (by omega)]; simp
    · have : p = l.length := by omega
      subst this
      simp
theorem f23_eq {l : List UInt8} {N : Nat} (hN : 30 ≤ N) : f23 N (strC l) = some (chk8 l) := by
  unfold f23 chk8
  by_cases h : l = []
  · subst h; simp [emptyS_eq]
  · simp only [emptyS_eq, strC_inj, h, decide_false, cond_false, strC_size, if_false]
    by_cases h2 : 24 < l.length
    · simp [h2, show (24 : Int) < (l.length : Int) by omega]
    · simp only [show ¬ (24 : Int) < (l.length : Int) by omega, decide_false, cond_false, joinK]
      rw [f23_loop N 0 (by omega) (by omega)]
      simp [h2, f23_c10]
      split <;> rfl
theorem chk8_zero {l : List UInt8} : chk8 l = 0 ↔ l ≠ [] ∧ l.length ≤ 24 ∧ l.all okb = true := by
  unfold chk8
  by_cases h : l = [] <;> by_cases h2 : 24 < l.length <;> by_cases h3 : l.all okb = true <;> simp [h, h2, h3] <;> omega
end Go.Vc
namespace Go.Vc
open Go.Proofs
set_option linter.unusedVariables false
set_option linter.unnecessarySimpa false
set_option linter.unusedSimpArgs false
end Go.Vc
namespace Go.Vc
open Go.Proofs
set_option linter.unusedVariables false
set_option linter.unnecessarySimpa false
set_option linter.unusedSimpArgs false
end Go.Vc
namespace Go.Vc
open Go.Proofs
set_option linter.unusedVariables false
set_option linter.unnecessarySimpa false
set_option linter.unusedSimpArgs false
end Go.Vc
namespace Go.Vc
open Go.Proofs
set_option linter.unusedVariables false
set_option linter.unnecessarySimpa false
set_option linter.unusedSimpArgs false
end Go.Vc
namespace Go.Vc
open Go.Proofs
set_option linter.unusedVariables false
set_option linter.unnecessarySimpa false
set_option linter.unusedSimpArgs false
set_option linter.unusedSimpArgs false
end Go.Vc
namespace Go.Vc
open Go.Proofs
set_option linter.unusedVariables false
set_option linter.unnecessarySimpa false
set_option linter.unusedSimpArgs false
end Go.Vc
namespace Go.Vc
open Go.Proofs
set_option linter.unusedVariables false
set_option linter.unnecessarySimpa false
set_option linter.unusedSimpArgs false
end Go.Vc
namespace Go.Vc
open Go.Proofs
set_option linter.unusedVariables false
set_option linter.unnecessarySimpa false
set_option linter.unusedSimpArgs false
set_option linter.unusedSimpArgs false
theorem bytesLess_lt : ∀ (x y : List UInt8), Op.bytesLess x y = decide (x < y)
  | [], [] => by simp [Op.bytesLess]
  | _ :: _, [] => by simp [Op.bytesLess]
  | [], _ :: _ => by simp [Op.bytesLess]
  | a :: x, b :: y => by
    rw [Op.bytesLess, bytesLess_lt x y]
    simp only [List.cons_lt_cons_iff]
    by_cases h1 : a < b <;> by_cases h2 : a = b <;> by_cases h3 : x < y <;> simp [h1, h2, h3]
theorem strLt_L {l m : List UInt8} : strLt (strC l) (strC m) = decide (l < m) := by
  unfold strLt
  rw [strC_toList, strC_toList, bytesLess_lt]
theorem lex_irrefl (l : List UInt8) : ¬ l < l := List.lt_irrefl l
theorem lex_tri {l m : List UInt8} (h1 : ¬ l < m) (h2 : ¬ m < l) : l = m := List.le_antisymm (List.not_lt.1 h2) (List.not_lt.1 h1)
def rot (l : List UInt8) (i : Nat) : List UInt8 := l.drop i ++ l.take i
theorem rot_len {l : List UInt8} {i : Nat} : (rot l i).length = l.length := by simp [rot]; omega
theorem rot_zero {l : List UInt8} : rot l 0 = l := by simp [rot]
theorem rot_get {l : List UInt8} {i x : Nat} (hi : i ≤ l.length) (hx : x < l.length) : (rot l i)[x]? = l[(x + i) % l.length]? := by
  unfold rot
  by_cases h : x < l.length - i
  · rw [List.getElem?_append_left (by simp; omega), List.getElem?_drop, Nat.mod_eq_of_lt (by omega), Nat.add_comm]
  · rw [List.getElem?_append_right (by simp; omega), List.length_drop, List.getElem?_take_of_lt (by omega)]
    congr 1
    rw [Nat.mod_eq_sub_mod (by omega), Nat.mod_eq_of_lt (by omega)]
    omega
theorem rot_rot {l : List UInt8} {i j : Nat} (h : l ≠ []) (hi : i ≤ l.length) (hj : j ≤ l.length) : rot (rot l i) j = rot l ((i + j) % l.length) := by
  have hl : 0 < l.length := List.length_pos_iff.2 h
  refine List.ext_getElem? fun x => ?_
  by_cases hx : x < l.length
  · rw [rot_get (by rw [rot_len]; exact hj) (by rw [rot_len]; exact hx), rot_len, rot_get hi (Nat.mod_lt _ hl), rot_get (Nat.le_of_lt (Nat.mod_lt _ hl)) hx]
    congr 1
    rw [Nat.mod_add_mod, Nat.add_mod_mod]
    congr 1; omega
  · rw [List.getElem?_eq_none (by rw [rot_len, rot_len]; omega), List.getElem?_eq_none (by rw [rot_len]; omega)]
def Turned (l m : List UInt8) : Prop := ∃ i, i ≤ l.length ∧ m = rot l i
theorem Turned.symm {l m : List UInt8} (h : Turned l m) : Turned m l := by
  obtain ⟨i, hi, rfl⟩ := h
  by_cases h : l = []
  · subst h; exact ⟨0, by simp, by simp [rot]⟩
  · refine ⟨l.length - i, by rw [rot_len]; omega, ?_⟩
    rw [rot_rot h hi (by omega), show i + (l.length - i) = l.length by omega, Nat.mod_self, rot_zero]
theorem Turned.trans {l m k : List UInt8} (h1 : Turned l m) (h2 : Turned m k) : Turned l k := by
  obtain ⟨i, hi, rfl⟩ := h1
  obtain ⟨j, hj, rfl⟩ := h2
  rw [rot_len] at hj
  by_cases h : l = []
  · subst h; exact ⟨0, by simp, by simp [rot]⟩
  · have hl : 0 < l.length := List.length_pos_iff.2 h
    exact ⟨(i + j) % l.length, Nat.le_of_lt (Nat.mod_lt _ hl), rot_rot h hi hj⟩
theorem Turned.refl {l : List UInt8} : Turned l l := ⟨0, Nat.zero_le _, rot_zero.symm⟩
theorem sub_end {l : List UInt8} {i : Nat} (hi : i ≤ l.length) : subS (strC l) (i : Int) (l.length : Int) = some (strC (l.drop i)) := by
  rw [subS_L hi (Nat.le_refl _), List.take_length]
theorem contains_iff {s t : List UInt8} : Lib.contains s t = true ↔ ∃ i, i ≤ s.length ∧ Lib.occAt s t i = true := by
  unfold Lib.contains
  rw [decide_eq_true_eq]
  constructor
  · intro h
    rcases Lib.index_spec s t with ⟨h1, _⟩ | ⟨i, h1, h2, h3, _⟩
    · omega
    · exact ⟨i, by assumption, by assumption⟩
  · rintro ⟨i, hi, ho⟩
    rcases Lib.index_spec s t with ⟨h1, h2⟩ | ⟨i, h1, h2, h3, _⟩
    · have := h2 i hi
      rw [this] at ho; cases ho
    · omega
theorem f56_eq {a b : List UInt8} {N : Nat} (ha : a.length ≤ 1000) : f56 N (strC a) (strC b) = some (Lib.contains a b) := by
  unfold f56
  rw [strC_toList, strC_toList, if_pos (by simpa using ha)]
end Go.Vc
namespace Go.Vc
open Go.Proofs
set_option linter.unusedVariables false
set_option linter.unnecessarySimpa false
set_option linter.unusedSimpArgs false
set_option linter.unusedSimpArgs false
abbrev Row := List UInt8
def At (S b : Row) (i : Nat) : Prop := i + b.length ≤ S.length ∧ (S.drop i).take b.length = b
def Has (S b : Row) : Prop := ∃ i, At S b i
def Sup (bs : List Row) (S : Row) : Prop := ∀ b ∈ bs, Has S b
theorem At.parts {S b : Row} {i : Nat} (h : At S b i) : S = S.take i ++ (b ++ S.drop (i + b.length)) := by
  obtain ⟨h1, h2⟩ := h
  conv => lhs; rw [← List.take_append_drop i S]
  congr 1
  conv => lhs; rw [← List.take_append_drop b.length (S.drop i)]
  rw [h2, List.drop_drop]
theorem At.of_parts {x b y : Row} : At (x ++ (b ++ y)) b x.length := by
  refine ⟨by simp, ?_⟩
  rw [List.drop_left, List.take_left]
theorem Has.of_parts {x b y : Row} : Has (x ++ (b ++ y)) b := ⟨_, At.of_parts⟩
theorem Has.left {S b x : Row} (h : Has S b) : Has (x ++ S) b := by
  obtain ⟨i, hi⟩ := h
  rw [hi.parts, ← List.append_assoc]
  exact Has.of_parts
theorem Has.right {S b y : Row} (h : Has S b) : Has (S ++ y) b := by
  obtain ⟨i, hi⟩ := h
  rw [hi.parts, List.append_assoc, List.append_assoc]
  exact Has.of_parts
theorem Has.refl {b : Row} : Has b b := ⟨0, by simp [At]⟩
theorem Has.trans {S b c : Row} (h1 : Has S b) (h2 : Has b c) : Has S c := by
  obtain ⟨i, hi⟩ := h1
  rw [hi.parts]
  exact (h2.right).left
theorem Has.len {S b : Row} (h : Has S b) : b.length ≤ S.length := by
  obtain ⟨i, hi, _⟩ := h; omega
theorem Has.eq {S b : Row} (h : Has S b) (hl : S.length ≤ b.length) : b = S := by
  obtain ⟨i, h1, h2⟩ := h
  have : i = 0 := by omega
  subst this
  rw [List.drop_zero, List.take_of_length_le hl] at h2
  exact h2.symm
theorem At.take {S b : Row} {i e : Nat} (h : At S b i) (he : i + b.length ≤ e) : At (S.take e) b i := by
  obtain ⟨h1, h2⟩ := h
  refine ⟨by simp; omega, ?_⟩
  rw [List.drop_take, List.take_take, show min b.length (e - i) = b.length by omega, h2]
theorem contains_has {S b : Row} : Lib.contains S b = true ↔ Has S b := by
  rw [contains_iff]
  have key : ∀ i, i ≤ S.length → (Lib.occAt S b i = true ↔ At S b i) := by
    intro i hi
    unfold Lib.occAt At
    rw [List.isPrefixOf_iff_prefix, List.prefix_iff_eq_take]
    constructor
    · intro h
      have := congrArg List.length h
      simp at this
      exact ⟨by omega, h.symm⟩
    · rintro ⟨_, h⟩; exact h.symm
  constructor
  · rintro ⟨i, hi, ho⟩; exact ⟨i, (key i hi).1 ho⟩
  · rintro ⟨i, h⟩; exact ⟨i, by have := h.1; omega, (key i (by have := h.1; omega)).2 h⟩
theorem Has.first {S b : Row} (h : Has S b) : ∃ i, At S b i ∧ ∀ j, j < i → ¬ At S b j := by
  obtain ⟨i, hi⟩ := h
  have : ∀ m, At S b m → ∃ k, At S b k ∧ ∀ y, y < k → ¬ At S b y := by
    intro m
    induction m using Nat.strongRecOn with
    | _ m ih =>
      intro hm
      by_cases hh : ∃ y, y < m ∧ At S b y
      · obtain ⟨y, y1, y2⟩ := hh; exact ih y y1 y2
      · exact ⟨m, hm, fun y hy he => hh ⟨y, hy, he⟩⟩
  exact this i hi
def Ov (a b : Row) (k : Nat) : Prop := a.drop (a.length - k) = b.take k
def ovFrom (a b : Row) : Nat → Nat
  | 0 => 0
  | k + 1 => if a.drop (a.length - (k + 1)) = b.take (k + 1) then k + 1 else ovFrom a b k
def ovN (a b : Row) : Nat := ovFrom a b (min a.length b.length)
theorem ovFrom_spec {a b : Row} : ∀ m, ovFrom a b m ≤ m ∧ Ov a b (ovFrom a b m) ∧ ∀ k, k ≤ m → Ov a b k → k ≤ ovFrom a b m := by
  intro m
  induction m with
  | zero => exact ⟨Nat.le_refl _, by simp [Ov, ovFrom], fun k hk _ => hk⟩
  | succ m ih =>
    rw [ovFrom]
    by_cases h : a.drop (a.length - (m + 1)) = b.take (m + 1)
    · rw [if_pos h]; exact ⟨Nat.le_refl _, h, fun k hk _ => hk⟩
    · rw [if_neg h]
      refine ⟨by omega, ih.2.1, fun k hk ho => ?_⟩
      by_cases hkm : k = m + 1
      · subst hkm; exact absurd ho h
      · exact ih.2.2 k (by omega) ho
theorem ovN_le {a b : Row} : ovN a b ≤ a.length ∧ ovN a b ≤ b.length := by
  have := (ovFrom_spec (a := a) (b := b) (min a.length b.length)).1
  unfold ovN; omega
def mergeR (a b : Row) : Row := a ++ b.drop (ovN a b)
theorem mergeR_len {a b : Row} : (mergeR a b).length + ovN a b = a.length + b.length := by
  have := ovN_le (a := a) (b := b)
  unfold mergeR; simp; omega
theorem mergeR_end {a b : Row} : mergeR a b = a.take (a.length - ovN a b) ++ b := by
  have h := (ovFrom_spec (a := a) (b := b) (min a.length b.length)).2.1
  have h : Ov a b (ovN a b) := h
  unfold Ov at h
  unfold mergeR
  have e1 : a ++ b.drop (ovN a b) = (a.take (a.length - ovN a b) ++ a.drop (a.length - ovN a b)) ++ b.drop (ovN a b) := by rw [List.take_append_drop]
  rw [e1, h, List.append_assoc, List.take_append_drop]
theorem mergeR_has {a b : Row} : Has (mergeR a b) b := by
  rw [mergeR_end]
  have := Has.of_parts (x := a.take (a.length - ovN a b)) (b := b) (y := [])
  simpa using this
theorem mergeR_pre {a b c : Row} (h : Has a c) : Has (mergeR a b) c := h.right
theorem merge_bound {S b : Row} {e i : Nat} (he : e ≤ S.length) (h : At S b i) (hi : e < i + b.length) : (mergeR (S.take e) b).length ≤ i + b.length ∧ ((mergeR (S.take e) b).length = i + b.length → mergeR (S.take e) b = S.take (i + b.length)) := by
  have hl := mergeR_len (a := S.take e) (b := b)
  have hlen : (S.take e).length = e := by simp; omega
  rw [hlen] at hl
  by_cases hie : i ≤ e
  · have ho : Ov (S.take e) b (e - i) := by
      unfold Ov
      rw [hlen, show e - (e - i) = i by omega]
      have hb := h.2
      conv => rhs; rw [← hb]
      rw [List.take_take, List.drop_take, show min (e - i) b.length = e - i by omega]
    have := (ovFrom_spec (a := S.take e) (b := b) (min (S.take e).length b.length)).2.2 (e - i) (by rw [hlen]; omega) ho
    have hov : e - i ≤ ovN (S.take e) b := this
    refine ⟨by omega, fun heq => ?_⟩
    have hq : ovN (S.take e) b = e - i := by omega
    unfold mergeR
    rw [hq]
    have hb := h.2
    conv => lhs; rw [← hb]
    have e1 : ((S.drop i).take b.length).drop (e - i) = (S.drop e).take (i + b.length - e) := by
      rw [List.drop_take, List.drop_drop, show i + (e - i) = e by omega]
      congr 1; omega
    rw [e1]
    have e2 : S.take (i + b.length) = S.take e ++ (S.drop e).take (i + b.length - e) := by
      rw [← List.take_add, show e + (i + b.length - e) = i + b.length by omega]
    exact e2.symm
  · exact ⟨by omega, fun heq => by omega⟩
inductive Leaf (step : Row → Row → Row) : Row → List Row → Row → Prop
  | nil {row : Row} : Leaf step row [] row
  | cons {row : Row} {l1 : List Row} {b : Row} {l2 : List Row} {R : Row} : Leaf step (step row b) (l1 ++ l2) R → Leaf step row (l1 ++ b :: l2) R
def Short (bs : List Row) (S : Row) : Prop := Sup bs S ∧ ∀ T, Sup bs T → S.length ≤ T.length
theorem step_eq {bs left : List Row} {S b : Row} {e i : Nat} (hS : Short bs S) (he : e ≤ S.length) (hall : ∀ c ∈ bs, c ∈ left ∨ Has (S.take e) c) (h : At S b i) (hi : e < i + b.length)
    (hmin : ∀ c ∈ left, Has (S.take e) c ∨ ∃ j, i ≤ j ∧ At S c j) : mergeR (S.take e) b = S.take (i + b.length) := by
  obtain ⟨m1, m2⟩ := merge_bound he h hi
  refine m2 ?_
  have hib := h.1
  have hsup : Sup bs (mergeR (S.take e) b ++ S.drop (i + b.length)) := by
    intro c hc
    have key : Has (S.take e) c ∨ ∃ j, i ≤ j ∧ At S c j := by
      rcases hall c hc with h | h
      · exact hmin c h
      · exact .inl h
    rcases key with h1 | ⟨j, j1, j2⟩
    · exact (mergeR_pre h1).right
    · rw [mergeR_end, List.append_assoc]
      have hd : b ++ S.drop (i + b.length) = S.drop i := by
        conv => lhs; rw [← h.2]
        rw [List.length_take, List.length_drop, show min b.length (S.length - i) = b.length by omega]
        rw [← List.drop_drop, List.take_append_drop]
      rw [hd]
      refine Has.left ?_
      refine ⟨j - i, ?_, ?_⟩
      · have := j2.1; simp; omega
      · rw [List.drop_drop, show i + (j - i) = j by omega]; exact j2.2
  have := hS.2 _ hsup
  simp only [List.length_append, List.length_drop] at this
  omega
theorem min_pos {S : Row} : ∀ {left : List Row}, left ≠ [] → (∀ c ∈ left, Has S c) → ∃ b ∈ left, ∃ i, At S b i ∧ ∀ c ∈ left, ∀ j, At S c j → i ≤ j := by
  intro left
  induction left with
  | nil => intro h; exact absurd rfl h
  | cons x l ih =>
    intro _ hl
    obtain ⟨i, hi, hmin⟩ := (hl x (by simp)).first
    have hx : ∀ j, At S x j → i ≤ j := fun j hj => by
      by_cases hh : i ≤ j
      · exact hh
      · exact absurd hj (hmin j (by omega))
    by_cases hne : l = []
    · subst hne
      exact ⟨x, by simp, i, hi, fun c hc => by simp at hc; subst hc; exact hx⟩
    · obtain ⟨b, hb, j, hj, hall⟩ := ih hne fun c hc => hl c (by simp [hc])
      by_cases hij : i ≤ j
      · refine ⟨x, by simp, i, hi, fun c hc k hk => ?_⟩
        rcases List.mem_cons.1 hc with rfl | hc
        · exact hx k hk
        · have := hall c hc k hk; omega
      · refine ⟨b, by simp [hb], j, hj, fun c hc k hk => ?_⟩
        rcases List.mem_cons.1 hc with rfl | hc
        · have := hx k hk; omega
        · exact hall c hc k hk
theorem split_mem {α : Type} {x : α} {l : List α} (h : x ∈ l) : ∃ l1 l2, l = l1 ++ x :: l2 := List.append_of_mem h
def Anti (l : List Row) : Prop := l.Pairwise fun a b => ¬ Has a b ∧ ¬ Has b a
theorem Anti.split {l1 l2 : List Row} {b : Row} (h : Anti (l1 ++ b :: l2)) : Anti (l1 ++ l2) ∧ ∀ c ∈ l1 ++ l2, ¬ Has b c := by
  unfold Anti at h ⊢
  rw [List.pairwise_append, List.pairwise_cons] at h
  obtain ⟨h1, ⟨h2, h3⟩, h4⟩ := h
  constructor
  · rw [List.pairwise_append]
    exact ⟨h1, h3, fun a ha c hc => h4 a ha c (by simp [hc])⟩
  · intro c hc
    rcases List.mem_append.1 hc with hc | hc
    · exact (h4 c hc b (by simp)).2
    · exact (h2 c hc).1
theorem short_merge {bs : List Row} {S : Row} (hS : Short bs S) : ∀ (n : Nat) (left : List Row) (e : Nat), left.length = n → e ≤ S.length → Anti left → (∀ c ∈ left, c ∈ bs ∧ ¬ Has (S.take e) c) → (∀ c ∈ bs, c ∈ left ∨ Has (S.take e) c) → Leaf mergeR (S.take e) left S := by
  intro n
  induction n with
  | zero =>
    intro left e hn he _ _ hall
    have : left = [] := List.length_eq_zero_iff.1 hn
    subst this
    have hs : Sup bs (S.take e) := fun c hc => by
      rcases hall c hc with h | h
      · cases h
      · exact h
    have := hS.2 _ hs
    rw [List.length_take] at this
    have h2 : S.take e = S := List.take_of_length_le (by omega)
    rw [h2]
    exact .nil
  | succ n ih =>
    intro left e hn he hanti hsub hall
    obtain ⟨b, hb, i, hi, hmin⟩ := min_pos (S := S) (left := left) (by rintro rfl; simp at hn) fun c hc => hS.1 c (hsub c hc).1
    have hend : e < i + b.length := by
      by_cases hh : i + b.length ≤ e
      · exact absurd ⟨i, hi.take hh⟩ (hsub b hb).2
      · omega
    have hm := step_eq hS he hall hi hend fun c hc => .inr (by
      obtain ⟨j, hj⟩ := hS.1 c (hsub c hc).1
      exact ⟨j, hmin c hc j hj, hj⟩)
    obtain ⟨l1, l2, rfl⟩ := split_mem hb
    obtain ⟨ha1, ha2⟩ := hanti.split
    have hmem : ∀ c, c ∈ l1 ++ l2 → c ∈ l1 ++ b :: l2 := fun c hc => by
      simp at hc ⊢; rcases hc with h | h <;> simp [h]
    refine .cons ?_
    rw [hm]
    refine ih _ (i + b.length) (by simp at hn ⊢; omega) hi.1 ha1 (fun c hc => ⟨(hsub c (hmem c hc)).1, fun hh => ?_⟩) fun c hc => ?_
    · -- it would be a piece of b
      obtain ⟨j, hj⟩ := hh
      have hj1 := hj.1
      rw [List.length_take] at hj1
      have hjS : At S c j := by
        refine ⟨by omega, ?_⟩
        have := hj.2
        rw [List.drop_take, List.take_take, show min c.length (i + b.length - j) = c.length by omega] at this
        exact this
      -- its first place is not before b's
      have hij := hmin c (hmem c hc) j hjS
      refine ha2 c hc ⟨j - i, by omega, ?_⟩
      have hb2 := hi.2
      conv => lhs; rw [← hb2]
      rw [List.drop_take, List.take_take, List.drop_drop, show i + (j - i) = j by omega, show min c.length (b.length - (j - i)) = c.length by omega]
      exact hjS.2
    · rcases hall c hc with h | h
      · simp only [List.mem_append, List.mem_cons] at h ⊢
        rcases h with h | rfl | h
        · exact .inl (.inl h)
        · exact .inr ⟨i, hi.take (Nat.le_refl _)⟩
        · exact .inl (.inr h)
      · refine .inr ?_
        obtain ⟨j, hj⟩ := h
        have h2 : S.take (i + b.length) = S.take e ++ (S.drop e).take (i + b.length - e) := by
          rw [← List.take_add, show e + (i + b.length - e) = i + b.length by omega]
        rw [h2]
        exact Has.right ⟨j, hj⟩
def sl (x y : Row) : Prop := x.length < y.length ∨ (x.length = y.length ∧ x < y)
theorem sl_irrefl (x : Row) : ¬ sl x x := by
  rintro (h | ⟨_, h⟩)
  · omega
  · exact lex_irrefl x h
theorem sl_tri {x y : Row} (h1 : ¬ sl x y) (h2 : ¬ sl y x) : x = y := by
  unfold sl at h1 h2
  have hl : x.length = y.length := by
    rcases Nat.lt_trichotomy x.length y.length with h | h | h
    · exact absurd (.inl h) h1
    · exact h
    · exact absurd (.inl h) h2
  exact lex_tri (fun h => h1 (.inr ⟨hl, h⟩)) (fun h => h2 (.inr ⟨hl.symm, h⟩))
theorem sl_trans {x y z : Row} (h1 : sl x y) (h2 : sl y z) : sl x z := by
  rcases h1 with h1 | ⟨h1, h1'⟩ <;> rcases h2 with h2 | ⟨h2, h2'⟩
  · exact .inl (by omega)
  · exact .inl (by omega)
  · exact .inl (by omega)
  · exact .inr ⟨by omega, List.lt_trans h1' h2'⟩
def BestP (P : Row → Prop) (x : Row) : Prop := P x ∧ ∀ y, P y → ¬ sl y x
theorem BestP.uniq {P : Row → Prop} {x y : Row} (h1 : BestP P x) (h2 : BestP P y) : x = y := sl_tri (h2.2 x h1.1) (h1.2 y h2.1)
open Classical in
theorem BestP.or {P Q : Row → Prop} {x y : Row} (h1 : BestP P x) (h2 : BestP Q y) : BestP (fun r => P r ∨ Q r) (if sl y x then y else x) := by
  by_cases h : sl y x
  · rw [if_pos h]
    refine ⟨.inr h2.1, fun z hz => ?_⟩
    rcases hz with hz | hz
    · intro hs
      exact h1.2 z hz (sl_trans hs h)
    · exact h2.2 z hz
  · rw [if_neg h]
    refine ⟨.inl h1.1, fun z hz => ?_⟩
    rcases hz with hz | hz
    · exact h1.2 z hz
    · intro hs
      by_cases hzy : sl z y
      · exact h2.2 z hz hzy
      · by_cases hyz : sl y z
        · exact h (sl_trans hyz hs)
        · have := sl_tri hzy hyz
          subst this; exact h hs
theorem BestP.congr {P Q : Row → Prop} {x : Row} (h : BestP P x) (hpq : ∀ r, P r ↔ Q r) : BestP Q x := ⟨(hpq x).1 h.1, fun y hy => h.2 y ((hpq y).2 hy)⟩
def Joint (bs : List Row) (S : Row) : Prop := BestP (Sup bs) S
theorem Joint.uniq {bs : List Row} {x y : Row} (h1 : Joint bs x) (h2 : Joint bs y) : x = y := BestP.uniq h1 h2
theorem Joint.short {bs : List Row} {x : Row} (h : Joint bs x) : Short bs x := ⟨h.1, fun T hT => by
  by_cases hh : x.length ≤ T.length
  · exact hh
  · exact absurd (.inl (by omega)) (h.2 T hT)⟩
theorem Joint.congr {cs bs : List Row} {x : Row} (h : Joint cs x) (hab : ∀ S, Sup cs S ↔ Sup bs S) : Joint bs x := BestP.congr h hab
theorem Sup.concat (bs : List Row) : Sup bs bs.flatten := by
  intro b hb
  obtain ⟨l1, l2, rfl⟩ := split_mem hb
  rw [List.flatten_append, List.flatten_cons]
  exact Has.of_parts
theorem short_ex (bs : List Row) : ∃ S, Short bs S := by
  have : ∀ n S, Sup bs S → S.length = n → ∃ S, Short bs S := by
    intro n
    induction n using Nat.strongRecOn with
    | _ n ih =>
      intro S hS hn
      by_cases hh : ∃ T, Sup bs T ∧ T.length < n
      · obtain ⟨T, hT, hl⟩ := hh
        exact ih T.length hl T hT rfl
      · refine ⟨S, hS, fun T hT => ?_⟩
        by_cases hl : S.length ≤ T.length
        · exact hl
        · exact absurd ⟨T, hT, by omega⟩ hh
  exact this _ _ (Sup.concat bs) rfl
theorem joint_of {bs : List Row} {P : Row → Prop} {x : Row} (h : BestP P x) (hsup : ∀ r, P r → Sup bs r) (hall : ∀ S, Short bs S → P S) : Joint bs x := by
  refine ⟨hsup x h.1, fun T hT hs => ?_⟩
  obtain ⟨S, hS⟩ := short_ex bs
  have h1 := h.2 S (hall S hS)
  have h2 := hS.2 T hT
  have h3 : ¬ x.length > S.length := fun hh => h1 (.inl hh)
  have hT2 : Short bs T := by
    refine ⟨hT, fun U hU => ?_⟩
    have := hS.2 U hU
    rcases hs with hs | ⟨hs, _⟩ <;> omega
  exact h.2 T (hall T hT2) hs
theorem Leaf.has {step : Row → Row → Row} (h1 : ∀ a b c, Has a c → Has (step a b) c) (h2 : ∀ a b, Has (step a b) b) {row : Row} {left : List Row} {R : Row} (h : Leaf step row left R) : (∀ c, Has row c → Has R c) ∧ Sup left R := by
  induction h with
  | nil => exact ⟨fun c hc => hc, fun c hc => by cases hc⟩
  | @cons row l1 b l2 R hl ih =>
    obtain ⟨i1, i2⟩ := ih
    refine ⟨fun c hc => i1 c (h1 row b c hc), fun c hc => ?_⟩
    simp only [List.mem_append, List.mem_cons] at hc
    rcases hc with hc | rfl | hc
    · exact i2 c (by simp [hc])
    · exact i1 _ (h2 row _)
    · exact i2 c (by simp [hc])
end Go.Vc
namespace Go.Vc
open Go.Proofs
set_option linter.unusedVariables false
set_option linter.unnecessarySimpa false
set_option linter.unusedSimpArgs false
end Go.Vc
namespace Go.Vc
open Go.Proofs
set_option linter.unusedVariables false
set_option linter.unnecessarySimpa false
set_option linter.unusedSimpArgs false
end Go.Vc
namespace Go.Vc
open Go.Proofs
set_option linter.unusedVariables false
set_option linter.unnecessarySimpa false
set_option linter.unusedSimpArgs false
end Go.Vc
namespace Go.Vc
open Go.Proofs
set_option linter.unusedVariables false
set_option linter.unnecessarySimpa false
set_option linter.unusedSimpArgs false
end Go.Vc
namespace Go.Vc
open Go.Proofs
set_option linter.unusedVariables false
set_option linter.unnecessarySimpa false
set_option linter.unusedSimpArgs false
set_option linter.unusedSimpArgs false
section
variable {α : Type}
end
theorem ix_strs {bs : List Row} {i : Nat} (h : i < bs.length) : ix (bs.map strC) (i : Int) = some (strC bs[i]) := by
  rw [ix_nat, List.getElem?_map, List.getElem?_eq_getElem h]; rfl
open Classical in
theorem better_eq {α : Type} {x y : Row} {A : ByteArray → Option α} (hy : y ≠ []) :
    (bif decide (strC y = emptyS) then A (strC x) else (bif decide (((strC x).size : Int) < ((strC y).size : Int)) then A (strC x) else (bif decide (((strC x).size : Int) = ((strC y).size : Int)) then (bif strLt (strC x) (strC y) then A (strC x) else A (strC y)) else A (strC y)))) = A (strC (if sl x y then x else y)) := by
  rw [emptyS_eq, decide_eq_false fun h => hy (strC_inj.1 h), cond_false, strC_size, strC_size, strLt_L]
  unfold sl
  by_cases h1 : x.length < y.length
  · rw [decide_eq_true (show (x.length : Int) < (y.length : Int) by omega), if_pos (.inl h1)]; rfl
  · rw [decide_eq_false (show ¬ (x.length : Int) < (y.length : Int) by omega), cond_false]
    by_cases h2 : x.length = y.length
    · rw [decide_eq_true (show (x.length : Int) = (y.length : Int) by omega), cond_true]
      by_cases h3 : x < y
      · rw [decide_eq_true h3, if_pos (.inr ⟨h2, h3⟩)]; rfl
      · have hn : ¬ (x.length < y.length ∨ x.length = y.length ∧ x < y) := by
          rintro (h | ⟨_, h⟩)
          · exact h1 h
          · exact h3 h
        rw [decide_eq_false h3, if_neg hn]; rfl
    · have hn : ¬ (x.length < y.length ∨ x.length = y.length ∧ x < y) := by
        rintro (h | ⟨h, _⟩)
        · exact h1 h
        · exact h2 h
      rw [decide_eq_false (show ¬ (x.length : Int) = (y.length : Int) by omega), if_neg hn]; rfl
theorem leaf_cons {step : Row → Row → Row} {row R : Row} {left : List Row} (hne : left ≠ []) (h : Leaf step row left R) : ∃ l1 b l2, left = l1 ++ b :: l2 ∧ Leaf step (step row b) (l1 ++ l2) R := by
  cases h with
  | nil => exact absurd rfl hne
  | @cons _ l1 b l2 _ h => exact ⟨l1, b, l2, rfl, h⟩
theorem leaf_nil {step : Row → Row → Row} {row R : Row} (h : Leaf step row [] R) : R = row := by
  generalize hl : ([] : List Row) = left at h
  cases h with
  | nil => rfl
  | cons h => simp at hl
def errJ : List Row → Int
  | [] => 0
  | b :: l => if chk8 b ≠ 0 then chk8 b else if 8 < b.length then 19 else errJ l
theorem errJ_ok : ∀ {l : List Row}, errJ l = 0 → ∀ b ∈ l, 1 ≤ b.length ∧ b.length ≤ 8 := by
  intro l
  induction l with
  | nil => intro _ b hb; cases hb
  | cons x l ih =>
    intro h b hb
    rw [errJ] at h
    by_cases h1 : chk8 x = 0
    · rw [if_neg (by simp [h1])] at h
      by_cases h2 : 8 < x.length
      · rw [if_pos h2] at h; cases h
      · rw [if_neg h2] at h
        rcases List.mem_cons.1 hb with rfl | hb
        · exact ⟨List.length_pos_iff.2 (chk8_zero.1 h1).1, by omega⟩
        · exact ih h b hb
    · rw [if_pos h1] at h; exact absurd h h1
end Go.Vc
namespace Go.Vc
open Go.Proofs
set_option maxRecDepth 100000
end Go.Vc
namespace Go.Vc
open Go.Proofs
set_option linter.unusedVariables false
set_option linter.unnecessarySimpa false
set_option linter.unusedSimpArgs false
end Go.Vc
namespace Go.Vc
open Go.Proofs
set_option linter.unusedVariables false
set_option linter.unnecessarySimpa false
set_option linter.unusedSimpArgs false
set_option linter.unusedSimpArgs false
def bub : List Row → Row → List Row
  | [], x => [x]
  | y :: r, x => if y.length < x.length then bub r x ++ [y] else (y :: r).reverse ++ [x]
theorem bub_len : ∀ {r : List Row} {x : Row}, (bub r x).length = r.length + 1 := by
  intro r
  induction r with
  | nil => intro x; rfl
  | cons y r ih => intro x; rw [bub]; split <;> simp [ih]
theorem bub_mem : ∀ {r : List Row} {x z : Row}, z ∈ bub r x ↔ z ∈ r ∨ z = x := by
  intro r
  induction r with
  | nil => intro x z; simp [bub]
  | cons y r ih =>
    intro x z
    rw [bub]
    split
    · simp only [List.mem_append, ih, List.mem_cons, List.not_mem_nil, or_false]
      constructor
      · rintro ((h | h) | h)
        · exact .inl (.inr h)
        · exact .inr h
        · exact .inl (.inl h)
      · rintro ((h | h) | h)
        · exact .inr h
        · exact .inl (.inl h)
        · exact .inl (.inr h)
    · simp only [List.mem_append, List.mem_reverse, List.mem_cons, List.not_mem_nil, or_false]
def Desc (l : List Row) : Prop := l.Pairwise fun a b => b.length ≤ a.length
theorem bub_desc : ∀ {r : List Row} {x : Row}, (r.Pairwise fun a b => a.length ≤ b.length) → Desc (bub r x) := by
  intro r
  induction r with
  | nil => intro x _; simp [bub, Desc]
  | cons y r ih =>
    intro x h
    obtain ⟨h1, h2⟩ := List.pairwise_cons.1 h
    rw [bub]
    split
    · rename_i hlt
      unfold Desc
      rw [List.pairwise_append]
      refine ⟨ih h2, by simp, fun a ha b hb => ?_⟩
      simp at hb; subst hb
      rcases bub_mem.1 ha with ha | rfl
      · exact h1 a ha
      · omega
    · rename_i hge
      unfold Desc
      rw [List.pairwise_append]
      refine ⟨?_, by simp, fun a ha b hb => ?_⟩
      · rw [List.pairwise_reverse]; exact h
      · simp at hb; subst hb
        rw [List.mem_reverse, List.mem_cons] at ha
        rcases ha with rfl | ha
        · omega
        · have := h1 a ha; omega
def insR : List Row → List Row → List Row
  | A, [] => A
  | A, x :: B => insR (bub A.reverse x) B
theorem insR_mem : ∀ {B A : List Row} {z : Row}, z ∈ insR A B ↔ z ∈ A ∨ z ∈ B := by
  intro B
  induction B with
  | nil => intro A z; simp [insR]
  | cons x B ih =>
    intro A z
    rw [insR, ih, bub_mem]
    simp only [List.mem_reverse, List.mem_cons]
    exact or_assoc
theorem insR_desc : ∀ {B A : List Row}, Desc A → Desc (insR A B) := by
  intro B
  induction B with
  | nil => intro A h; exact h
  | cons x B ih =>
    intro A h
    rw [insR]
    exact ih (bub_desc (by rw [List.pairwise_reverse]; exact h))
theorem insR_len : ∀ {B A : List Row}, (insR A B).length = A.length + B.length := by
  intro B
  induction B with
  | nil => intro A; rfl
  | cons x B ih => intro A; rw [insR, ih, bub_len, List.length_reverse, List.length_cons]; omega
theorem ix_mid {P Q : List Row} {z : Row} {j : Nat} (h : j = P.length) : ix ((P ++ z :: Q).map strC) (j : Int) = some (strC z) := by
  subst h
  rw [ix_nat, List.getElem?_map, List.getElem?_append_right (Nat.le_refl _), Nat.sub_self]; rfl
theorem setx_mid {P Q : List Row} {z w : Row} {j : Nat} (h : j = P.length) : setx ((P ++ z :: Q).map strC) (j : Int) (strC w) = some ((P ++ w :: Q).map strC) := by
  subst h
  unfold setx
  rw [if_pos ⟨by omega, by simp; omega⟩, Int.toNat_natCast]
  congr 1
  rw [List.map_append, List.map_append, List.map_cons, List.map_cons, List.set_append_right _ _ (by simp)]
  simp
theorem f86_inner {s1 : Int} {N : Nat} {i : Int} {k0 : List ByteArray → Option (List ByteArray)} {x : Row} (hx : x.length ≤ 100) : ∀ (r B : List Row) (m : Nat), r.length < m → r.length ≤ 100 → (∀ y ∈ r, y.length ≤ 100) →
    f86_4 0 s1 N i k0 m (r.length : Int) ((r.reverse ++ x :: B).map strC) = k0 ((bub r x ++ B).map strC) := by
  intro r
  induction r with
  | nil =>
    intro B m hm _ _
    obtain ⟨m, rfl⟩ : ∃ k, m = k + 1 := ⟨m - 1, by simp at hm; omega⟩
    unfold f86_4 f86_4b
    rw [decide_eq_false (by simp), cond_false]; rfl
  | cons y r ih =>
    intro B m hm hl hr
    obtain ⟨m, rfl⟩ : ∃ k, m = k + 1 := ⟨m - 1, by simp at hm; omega⟩
    simp only [List.length_cons] at hm hl
    have hy := hr y (by simp)
    unfold f86_4 f86_4b
    rw [List.length_cons, decide_eq_true (show (0 : Int) < ((r.length + 1 : Nat) : Int) by omega), cond_true, show (((r.length + 1 : Nat) : Int) - 1) = (r.length : Int) by omega, W_of (by omega) (by omega)]
    have eL : (y :: r).reverse ++ x :: B = (r.reverse ++ [y]) ++ x :: B := by rw [List.reverse_cons]
    have eL2 : (y :: r).reverse ++ x :: B = r.reverse ++ y :: (x :: B) := by rw [List.reverse_cons, List.append_assoc]; rfl
    have i1 : ix (((y :: r).reverse ++ x :: B).map strC) ((r.length + 1 : Nat) : Int) = some (strC x) := by rw [eL]; exact ix_mid (by simp)
    have i2 : ix (((y :: r).reverse ++ x :: B).map strC) (r.length : Int) = some (strC y) := by rw [eL2]; exact ix_mid (by simp)
    rw [i1, i2]
    simp only [Option.bind_some]
    have hf : f59 N (strC x) (strC y) = some ((y.length : Int) - (x.length : Int)) := by
      unfold f59; rw [strC_size, strC_size, W_of (by omega) (by omega)]
    rw [hf]
    simp only [Option.bind_some]
    by_cases hlt : y.length < x.length
    · rw [decide_eq_true (show (y.length : Int) - (x.length : Int) < 0 by omega), cond_true]
      have s1' : setx (((y :: r).reverse ++ x :: B).map strC) ((r.length + 1 : Nat) : Int) (strC y) = some ((r.reverse ++ y :: (y :: B)).map strC) := by
        rw [eL, setx_mid (w := y) (by simp)]
        rw [List.append_assoc]; rfl
      have s2' : setx ((r.reverse ++ y :: (y :: B)).map strC) (r.length : Int) (strC x) = some ((r.reverse ++ x :: (y :: B)).map strC) := setx_mid (by simp)
      have i3 : ix ((r.reverse ++ y :: (y :: B)).map strC) (r.length : Int) = some (strC y) := ix_mid (by simp)
      rw [s1', Option.bind_some, i3, Option.bind_some, s2', Option.bind_some, ih (y :: B) m (by omega) (by omega) fun z hz => hr z (by simp [hz])]
      rw [bub, if_pos hlt, List.append_assoc]; rfl
    · rw [decide_eq_false (show ¬ (y.length : Int) - (x.length : Int) < 0 by omega), cond_false, bub, if_neg hlt, List.append_assoc]; rfl
theorem f86_outer {N : Nat} (hN : 30 ≤ N) : ∀ (B A : List Row) (m : Nat), 1 ≤ A.length → A.length + B.length ≤ 20 → B.length < m → (∀ y ∈ A, y.length ≤ 100) → (∀ y ∈ B, y.length ≤ 100) →
    f86_1 0 ((A.length + B.length : Nat) : Int) N m (A.length : Int) ((A ++ B).map strC) = some ((insR A B).map strC) := by
  intro B
  induction B with
  | nil =>
    intro A m _ _ hm _ _
    obtain ⟨m, rfl⟩ : ∃ k, m = k + 1 := ⟨m - 1, by simp at hm; omega⟩
    unfold f86_1 f86_1b
    rw [decide_eq_false (by simp), cond_false, List.append_nil]; rfl
  | cons x B ih =>
    intro A m hA hl hm h1 h2
    obtain ⟨m, rfl⟩ : ∃ k, m = k + 1 := ⟨m - 1, by simp at hm; omega⟩
    simp only [List.length_cons] at hl hm
    unfold f86_1 f86_1b
    rw [decide_eq_true (by simp; omega), cond_true]
    simp only [joinK]
    have hin := f86_inner (s1 := ((A.length + (x :: B).length : Nat) : Int)) (N := N) (i := (A.length : Int)) (k0 := f86_c2 0 ((A.length + (x :: B).length : Nat) : Int) (A.length : Int) (f86_1 0 ((A.length + (x :: B).length : Nat) : Int) N m)) (x := x) (h2 x (by simp)) A.reverse B N (by simp; omega) (by simp; omega) (fun y hy => h1 y (by simpa using hy))
    rw [List.length_reverse, List.reverse_reverse] at hin
    rw [hin]
    unfold f86_c2
    have hb : (bub A.reverse x).length = A.length + 1 := by rw [bub_len, List.length_reverse]
    have := ih (bub A.reverse x) m (by omega) (by omega) (by omega) (fun y hy => by
      rcases bub_mem.1 hy with hy | rfl
      · exact h1 y (by simpa using hy)
      · exact h2 _ (by simp)) (fun y hy => h2 y (by simp [hy]))
    rw [hb] at this
    rw [W_nat (by omega), insR, ← this]
    congr 2
    simp; omega
theorem f74_small : ∀ {n : Nat}, n ≤ 5 → ∀ N : Nat, ∃ v, f74 N (Wk .u64 (n : Int)) = some v := by
  intro n hn N
  rcases (by omega : n = 0 ∨ n = 1 ∨ n = 2 ∨ n = 3 ∨ n = 4 ∨ n = 5) with h | h | h | h | h | h <;> subst h
  · exact ⟨0, by kernel_rfl⟩
  · exact ⟨1, by kernel_rfl⟩
  · exact ⟨2, by kernel_rfl⟩
  · exact ⟨2, by kernel_rfl⟩
  · exact ⟨3, by kernel_rfl⟩
  · exact ⟨3, by kernel_rfl⟩
theorem f73_eq {l : List Row} {N : Nat} {v : Int} (hl : l ≠ []) (h5 : l.length ≤ 5) (hs : ∀ y ∈ l, y.length ≤ 100) (hN : 60 ≤ N) :
    ∃ q : List Row, f73 N 0 (l.length : Int) v (l.map strC) = some (q.map strC) ∧ q.length = l.length ∧ Desc q ∧ ∀ z, z ∈ q ↔ z ∈ l := by
  cases l with
  | nil => exact absurd rfl hl
  | cons x l =>
    obtain ⟨M, rfl⟩ : ∃ M, N = M + 1 + 1 := ⟨N - 2, by omega⟩
    refine ⟨insR [x] l, ?_, by rw [insR_len]; simp; omega, insR_desc (by simp [Desc]), fun z => by rw [insR_mem]; simp⟩
    have h86 : f86 (M + 1) 0 (((x :: l).length : Nat) : Int) ((x :: l).map strC) = some ((insR [x] l).map strC) := by
      have := f86_outer (N := M) (by omega) l [x] M (by simp) (by simpa using (by simp at h5; omega : 1 + l.length ≤ 20)) (by simp at h5; omega) (fun y hy => hs y (by simp at hy; simp [hy])) (fun y hy => hs y (by simp [hy]))
      rw [f86]
      unfold f86b
      rw [← this]
      simp only [List.length_cons, List.length_nil]
      rw [show ((l.length + 1 : Nat) : Int) = ((0 + 1 + l.length : Nat) : Int) by omega]
      rfl
    rw [f73]
    unfold f73b f73_2 f73_2b
    rw [Int.sub_zero, W_of (by omega) (by omega), decide_eq_true (by simp at h5 ⊢; omega), cond_true, h86, Option.bind_some]
    have hk : keepL ((x :: l).map strC) ((insR [x] l).map strC) = some ((insR [x] l).map strC) := by
      unfold keepL; rw [if_pos (by simp [insR_len]; omega)]
    rw [hk]; rfl
open Classical in
noncomputable def longF : List Row → List Row → List Row
  | K, [] => K
  | K, b :: B => longF (if ∃ l ∈ K, Has l b then K else K ++ [b]) B
theorem longF_sub : ∀ {B K : List Row} {z : Row}, z ∈ longF K B → z ∈ K ∨ z ∈ B := by
  intro B
  induction B with
  | nil => intro K z h; exact .inl h
  | cons b B ih =>
    intro K z h
    rw [longF] at h
    rcases ih h with h | h
    · split at h
      · exact .inl h
      · rcases List.mem_append.1 h with h | h
        · exact .inl h
        · simp at h; subst h; exact .inr (by simp)
    · exact .inr (by simp [h])
theorem longF_keep : ∀ {B K : List Row} {z : Row}, z ∈ K → z ∈ longF K B := by
  intro B
  induction B with
  | nil => intro K z h; exact h
  | cons b B ih =>
    intro K z h
    rw [longF]
    refine ih ?_
    split
    · exact h
    · simp [h]
theorem longF_cover : ∀ {B K : List Row} {z : Row}, z ∈ B → ∃ l ∈ longF K B, Has l z := by
  intro B
  induction B with
  | nil => intro K z h; cases h
  | cons b B ih =>
    intro K z h
    rw [longF]
    rcases List.mem_cons.1 h with rfl | h
    · by_cases hh : ∃ l ∈ K, Has l z
      · rw [if_pos hh]
        obtain ⟨l, h1, h2⟩ := hh
        exact ⟨l, longF_keep h1, h2⟩
      · rw [if_neg hh]
        exact ⟨z, longF_keep (by simp), Has.refl⟩
    · exact ih h
theorem longF_anti : ∀ {B K : List Row}, Desc B → (∀ k ∈ K, ∀ b ∈ B, b.length ≤ k.length) → Anti K → Anti (longF K B) := by
  intro B
  induction B with
  | nil => intro K _ _ h; exact h
  | cons b B ih =>
    intro K h1 h2 h3
    obtain ⟨d1, d2⟩ := List.pairwise_cons.1 h1
    rw [longF]
    by_cases hh : ∃ l ∈ K, Has l b
    · rw [if_pos hh]
      exact ih d2 (fun k hk c hc => h2 k hk c (by simp [hc])) h3
    · rw [if_neg hh]
      refine ih d2 (fun k hk c hc => ?_) ?_
      · rcases List.mem_append.1 hk with hk | hk
        · exact h2 k hk c (by simp [hc])
        · simp at hk; subst hk; exact d1 c hc
      · unfold Anti
        rw [List.pairwise_append]
        refine ⟨h3, by simp, fun k hk c hc => ?_⟩
        simp at hc; subst hc
        refine ⟨fun h => hh ⟨k, hk, h⟩, fun h => ?_⟩
        have := h.eq (h2 k hk c (by simp))
        subst this
        exact hh ⟨k, hk, Has.refl⟩
open Classical in
theorem longF_len : ∀ {B K : List Row}, (longF K B).length ≤ K.length + B.length := by
  intro B
  induction B with
  | nil => intro K; simp [longF]
  | cons b B ih =>
    intro K
    rw [longF]
    have := ih (K := if ∃ l ∈ K, Has l b then K else K ++ [b])
    have h2 : (if ∃ l ∈ K, Has l b then K else K ++ [b]).length ≤ K.length + 1 := by split <;> simp
    simp only [List.length_cons]; omega
theorem app_strs {K : List Row} {b : Row} (h : K.length ≤ 100) : app 16 (K.map strC) [strC b] = some ((K ++ [b]).map strC) := by
  rw [app_ok (by simp; omega) (by simp; omega)]; simp
open Classical in
theorem long_loop {q : List Row} {N : Nat} {k0 : List ByteArray → Option (ByteArray × Int)} (hq : q.length ≤ 10) (hs : ∀ y ∈ q, y.length ≤ 100) (hN : 60 ≤ N) : ∀ (m i : Nat) (K : List Row), i ≤ q.length → q.length - i < m → K.length ≤ i → (∀ y ∈ K, y.length ≤ 100) →
    f35_19 N (q.map strC) k0 m (K.map strC) (i : Int) = k0 ((longF K (q.drop i)).map strC) := by
  intro m
  induction m with
  | zero => intro i K _ h; omega
  | succ m ih =>
    intro i K hi hm hK hKs
    unfold f35_19 f35_19b
    rw [List.length_map]
    by_cases h : i < q.length
    · rw [decide_eq_true (show (i : Int) < (q.length : Int) by omega), cond_true, ix_strs h, Option.bind_some]
      simp only [joinK]
      rw [List.drop_eq_getElem_cons h, longF]
      have hb := hs q[i] (List.getElem_mem h)
      rw [loop_ex0 (F := f35_i2102_i2103000102_2 N (q.map strC) (K.map strC) (i : Int) (f35_19 N (q.map strC) k0 m) (strC q[i]) (f35_i2102_i2103000102_c7 (q.map strC) (K.map strC) (i : Int) (f35_19 N (q.map strC) k0 m) (strC q[i])))
        (k0 := f35_i2102_i2103000102_c7 (q.map strC) (K.map strC) (i : Int) (f35_19 N (q.map strC) k0 m) (strC q[i])) (e := f35_19 N (q.map strC) k0 m (K.map strC) ((i + 1 : Nat) : Int)) (p := fun j => ∃ h : j < K.length, Has K[j] q[i]) K.length]
      · by_cases hx : ∃ l ∈ K, Has l q[i]
        · obtain ⟨l, l1, l2⟩ := hx
          obtain ⟨j, hj, e⟩ := List.getElem_of_mem l1
          rw [if_pos ⟨j, hj, hj, by rw [e]; exact l2⟩, if_pos ⟨l, l1, l2⟩]
          exact ih (i + 1) K (by omega) (by omega) (by omega) hKs
        · rw [if_neg, if_neg hx]
          · unfold f35_i2102_i2103000102_c7
            rw [app_strs (by omega), Option.bind_some, W_nat (by omega)]
            refine ih (i + 1) _ (by omega) (by omega) (by simp; omega) fun y hy => ?_
            rcases List.mem_append.1 hy with hy | hy
            · exact hKs y hy
            · simp at hy; subst hy; exact hb
          · rintro ⟨j, _, hj, hh⟩
            exact hx ⟨K[j], List.getElem_mem hj, hh⟩
      · intro n j hj
        conv => lhs; unfold f35_i2102_i2103000102_2 f35_i2102_i2103000102_2b
        rw [List.length_map, decide_eq_true (show (j : Int) < (K.length : Int) by omega), cond_true, ix_strs hj, Option.bind_some, f56_eq (by have := hKs K[j] (List.getElem_mem hj); omega), Option.bind_some]
        by_cases hh : Has K[j] q[i]
        · rw [contains_has.2 hh, cond_true, if_pos ⟨hj, hh⟩, decide_eq_true (show (0 : Int) ≤ (j : Int) by omega), W_nat (by omega)]; rfl
        · have : Lib.contains K[j] q[i] = false := by
            rw [Bool.eq_false_iff]; exact fun h => hh (contains_has.1 h)
          rw [this, cond_false, if_neg fun ⟨_, h⟩ => hh h, W_nat (by omega)]
      · intro n
        conv => lhs; unfold f35_i2102_i2103000102_2 f35_i2102_i2103000102_2b
        rw [List.length_map, decide_eq_false (by omega), cond_false]
      · omega
    · have : i = q.length := by omega
      subst this
      rw [decide_eq_false (by omega), cond_false, List.drop_length]; rfl
theorem f62_eq {l : List Row} {N : Nat} (h1 : l.length ≤ 100) (h2 : l.flatten.length ≤ 1000) : f62 N (l.map strC) emptyS = some (strC l.flatten) := by
  have hj : Lib.join l [] = l.flatten := by
    cases l with
    | nil => rfl
    | cons x r =>
      rw [Lib.join_cons]
      unfold Lib.joinTail
      simp
  unfold f62
  have e : (l.map strC).map (fun s : ByteArray => s.data.toList) = l := by
    rw [List.map_map]
    have : (fun s : ByteArray => s.data.toList) ∘ strC = id := by funext x; simp
    rw [this, List.map_id]
  have e2 : emptyS.data.toList = [] := rfl
  rw [e, e2, hj]
  exact if_pos ⟨by simpa using (by omega : l.length ≤ 1000), h2⟩
theorem f64_loop {a b : Row} {N : Nat} (ha : a.length ≤ 1000) (hb : b.length ≤ 1000) : ∀ (m k : Nat), k ≤ a.length → k ≤ b.length → k < m → f64_2 (strC a) (strC b) N f64_c4 m (k : Int) = some (ovFrom a b k : Int) := by
  intro m
  induction m with
  | zero => intro k _ _ h; omega
  | succ m ih =>
    intro k h1 h2 hm
    unfold f64_2 f64_2b
    have s2 := subS_L (l := b) (a := 0) (b := k) (by omega) h2
    rw [List.drop_zero] at s2
    rw [show subS (strC b) 0 (k : Int) = _ from s2, Option.bind_some]
    have hf : f79 N (strC a) (strC (b.take k)) = some (decide (a.drop (a.length - k) = b.take k)) := by
      unfold f79 Lib.hasSuffix
      rw [strC_toList, strC_toList]
      congr 1
      have : (b.take k).isSuffixOf a = true ↔ a.drop (a.length - k) = b.take k := by
        rw [List.isSuffixOf_iff_suffix, List.suffix_iff_eq_drop, List.length_take, show min k b.length = k by omega]
        exact eq_comm
      cases hh : (b.take k).isSuffixOf a with
      | true => rw [decide_eq_true (this.1 hh)]
      | false => rw [decide_eq_false fun h => by rw [this.2 h] at hh; cases hh]
    rw [hf, Option.bind_some]
    cases k with
    | zero => rw [decide_eq_true (by simp)]; rfl
    | succ k =>
      rw [ovFrom]
      by_cases h : a.drop (a.length - (k + 1)) = b.take (k + 1)
      · rw [if_pos h, decide_eq_true h]; rfl
      · rw [if_neg h, decide_eq_false h, Bool.not_false, cond_true, show (((k + 1 : Nat) : Int) - 1) = (k : Int) by omega, W_of (by omega) (by omega)]
        exact ih k (by omega) (by omega) (by omega)
theorem f64_eq {a b : Row} {N : Nat} (ha : a.length ≤ 1000) (hb : b.length ≤ 8) (hN : 20 ≤ N) : f64 N (strC a) (strC b) = some (ovN a b : Int) := by
  unfold f64
  simp only [joinK]
  rw [strC_size, strC_size, show min (a.length : Int) (b.length : Int) = ((min a.length b.length : Nat) : Int) by omega, f64_loop ha (by omega) N _ (by omega) (by omega) (by omega)]
  rfl
theorem f65_eq {x y : List ByteArray} {N : Nat} (hx : x.length ≤ 10) (hy : y.length ≤ 10) (hN : 10 ≤ N) : f65 N [x, y] = some (x ++ y) := by
  obtain ⟨m, rfl⟩ : ∃ m, N = m + 3 := ⟨N - 3, by omega⟩
  have i0 : ix [x, y] 0 = some x := rfl
  have i1 : ix [x, y] 1 = some y := rfl
  have w0 : W ((0 : Int) + 1) = 1 := by decide
  have w1 : W ((1 : Int) + 1) = 2 := by decide
  have c0 : decide ((0 : Int) < (List.length [x, y] : Int)) = true := by simp
  have c1 : decide ((1 : Int) < (List.length [x, y] : Int)) = true := by simp
  have c2 : decide ((2 : Int) < (List.length [x, y] : Int)) = false := by simp
  have tail : ∀ z : List ByteArray, z = [] → f65_11 [x, y] f65_c15 (m + 3) z 0 = some (x ++ y) := by
    rintro z rfl
    rw [show f65_11 [x, y] f65_c15 (m + 3) [] 0 = f65_11b (f65_11 [x, y] f65_c15 (m + 2)) [x, y] f65_c15 [] 0 from rfl]
    unfold f65_11b
    rw [c0, cond_true, i0, Option.bind_some, w0, app_ok (by simp; omega) (by simp; omega), Option.bind_some, List.nil_append]
    rw [show f65_11 [x, y] f65_c15 (m + 2) x 1 = f65_11b (f65_11 [x, y] f65_c15 (m + 1)) [x, y] f65_c15 x 1 from rfl]
    unfold f65_11b
    rw [c1, cond_true, i1, Option.bind_some, w1, app_ok (by omega) (by omega), Option.bind_some]
    rw [show f65_11 [x, y] f65_c15 (m + 1) (x ++ y) 2 = f65_11b (f65_11 [x, y] f65_c15 m) [x, y] f65_c15 (x ++ y) 2 from rfl]
    unfold f65_11b
    rw [c2, cond_false]; rfl
  unfold f65
  simp only [joinK]
  rw [show f65_3 [x, y] (f65_c9 [x, y] (m + 3)) (m + 3) 0 0 = f65_3b (f65_3 [x, y] (f65_c9 [x, y] (m + 3)) (m + 2)) [x, y] (f65_c9 [x, y] (m + 3)) 0 0 from rfl]
  unfold f65_3b
  have e1 : W ((0 : Int) + (x.length : Int)) = (x.length : Int) := by rw [W_of (by omega) (by omega)]; omega
  rw [c0, cond_true, i0, Option.bind_some, e1, decide_eq_false (by omega), cond_false, w0]
  rw [show f65_3 [x, y] (f65_c9 [x, y] (m + 3)) (m + 2) (x.length : Int) 1 = f65_3b (f65_3 [x, y] (f65_c9 [x, y] (m + 3)) (m + 1)) [x, y] (f65_c9 [x, y] (m + 3)) (x.length : Int) 1 from rfl]
  unfold f65_3b
  have e2 : W ((x.length : Int) + (y.length : Int)) = ((x.length + y.length : Nat) : Int) := by rw [W_of (by omega) (by omega)]; omega
  rw [c1, cond_true, i1, Option.bind_some, e2, decide_eq_false (by omega), cond_false, w1]
  rw [show f65_3 [x, y] (f65_c9 [x, y] (m + 3)) (m + 1) ((x.length + y.length : Nat) : Int) 2 = f65_3b (f65_3 [x, y] (f65_c9 [x, y] (m + 3)) m) [x, y] (f65_c9 [x, y] (m + 3)) ((x.length + y.length : Nat) : Int) 2 from rfl]
  unfold f65_3b
  rw [c2, cond_false]
  unfold f65_c9
  have ez : W (0 : Int) = 0 := by decide
  simp only [joinK, Int.sub_zero, ez]
  rw [decide_eq_false (by omega), cond_false, W_of (by omega) (by omega)]
  by_cases hpos : 0 < x.length + y.length
  · rw [decide_eq_true (by omega), cond_true]
    have hm : mkA 16 emptyS ((x.length + y.length : Nat) : Int) = some (List.replicate (x.length + y.length) emptyS) := by
      unfold mkA; rw [if_pos ⟨by omega, by omega⟩, Int.toNat_natCast]
    rw [hm, Option.bind_some]
    have hs : subR (List.replicate (x.length + y.length) emptyS) 0 0 = some [] := by
      unfold subR sub; rw [if_pos ⟨by omega, by omega, by simp; omega⟩]; rfl
    rw [hs, Option.bind_some]
    exact tail [] rfl
  · rw [decide_eq_false (by omega), cond_false]
    exact tail [] rfl
def UptoM (row : Row) (left : List Row) (i : Nat) (R : Row) : Prop := ∃ (j : Nat) (b : Row), j < i ∧ left[j]? = some b ∧ Leaf mergeR (mergeR row b) (left.take j ++ left.drop (j + 1)) R
open Classical in
theorem f63_ok : ∀ (m N : Nat) (row : Row) (left : List Row) (best : Row), left.length = m → m ≤ 6 → (∀ b ∈ left, b.length ≤ 8) → row.length + 8 * m ≤ 60 → best.length ≤ 100 → 60 + m ≤ N →
    ∃ R, f63 N (strC row) (left.map strC) (strC best) = some (strC R) ∧ R.length ≤ 100 ∧ BestP (fun r => r = best ∨ Leaf mergeR row left r) R := by
  intro m
  induction m with
  | zero =>
    intro N row left best hl _ _ hr hb hN
    have hnil : left = [] := List.length_eq_zero_iff.1 hl
    subst hnil
    obtain ⟨M, rfl⟩ : ∃ M, N = M + 1 := ⟨N - 1, by omega⟩
    rw [f63]
    unfold f63b
    simp only [joinK, List.map_nil, List.length_nil]
    have hk : ∀ q : ByteArray, f63_c2 (strC row) [] M (f63 M) q = some q := by
      intro q
      unfold f63_c2
      obtain ⟨K, rfl⟩ : ∃ K, M = K + 1 := ⟨M - 1, by omega⟩
      unfold f63_3 f63_3b
      simp
    rw [decide_eq_true (show ((0 : Nat) : Int) = 0 from rfl), cond_true]
    simp only [hk]
    have he : (bif decide (((strC row).size : Int) < ((strC best).size : Int)) then some (strC row) else (bif decide (((strC row).size : Int) = ((strC best).size : Int)) then (bif strLt (strC row) (strC best) then some (strC row) else some (strC best)) else some (strC best))) = some (strC (if sl row best then row else best)) := by
      by_cases hne : best = []
      · subst hne
        have hs : ¬ sl row [] := by
          unfold sl
          rintro (h | ⟨h, h'⟩)
          · simp at h
          · have : row = [] := List.length_eq_zero_iff.1 (by simpa using h)
            subst this; exact lex_irrefl _ h'
        rw [if_neg hs]
        by_cases hrow : row = []
        · subst hrow; simp
        · have := List.length_pos_iff.2 hrow
          rw [strC_size, strC_size, decide_eq_false (by simp), decide_eq_false (by simp; omega)]; rfl
      · have := better_eq (x := row) (y := best) (A := fun q => some q) hne
        rw [emptyS_eq, decide_eq_false fun h => hne (strC_inj.1 h), cond_false] at this
        exact this
    refine ⟨if sl row best then row else best, he, by split <;> omega, ?_⟩
    have h1 : BestP (fun r => r = best) best := ⟨rfl, fun y hy => by subst hy; exact sl_irrefl _⟩
    have h2 : BestP (Leaf mergeR row []) row := ⟨.nil, fun y hy => by rw [leaf_nil hy]; exact sl_irrefl row⟩
    exact h1.or h2
  | succ m ihm =>
    intro N row left best hl h6 h8 hr hb hN
    obtain ⟨M, rfl⟩ : ∃ M, N = M + 1 := ⟨N - 1, by omega⟩
    rw [f63]
    unfold f63b
    simp only [joinK]
    rw [List.length_map, decide_eq_false (by omega), cond_false]
    unfold f63_c2
    have key : ∀ (n i : Nat) (cur : Row), i ≤ left.length → left.length - i < n → cur.length ≤ 100 → BestP (fun r => r = best ∨ UptoM row left i r) cur →
        ∃ R, f63_3 (strC row) (left.map strC) M (f63 M) n (i : Int) (strC cur) = some (strC R) ∧ R.length ≤ 100 ∧ BestP (fun r => r = best ∨ UptoM row left left.length r) R := by
      intro n
      induction n with
      | zero => intro i _ _ h; omega
      | succ n ih =>
        intro i cur hi hn hc hB
        unfold f63_3 f63_3b
        rw [List.length_map]
        by_cases h : i < left.length
        · rw [decide_eq_true (show (i : Int) < (left.length : Int) by omega), cond_true, ix_strs h, Option.bind_some]
          have hb8 := h8 left[i] (List.getElem_mem h)
          have hov := ovN_le (a := row) (b := left[i])
          rw [f64_eq (by omega) hb8 (by omega), Option.bind_some, strC_size, sub_end (by omega), Option.bind_some, addS_L (by simp; omega), Option.bind_some]
          rw [show row ++ left[i].drop (ovN row left[i]) = mergeR row left[i] from rfl]
          have t1 : sub (left.map strC) 0 (i : Int) = some ((left.take i).map strC) := by
            have := sub_nat (l := left.map strC) (a := 0) (b := i) (by omega) (by simp; omega)
            rw [show ((0 : Nat) : Int) = 0 from rfl] at this
            rw [this, List.drop_zero, List.map_take]
          have t2 : sub (left.map strC) ((i + 1 : Nat) : Int) (left.length : Int) = some ((left.drop (i + 1)).map strC) := by
            have := sub_nat (l := left.map strC) (a := i + 1) (b := left.length) (by omega) (by simp)
            rw [this, List.take_of_length_le (by simp), List.map_drop]
          rw [W_nat (by omega), t1, Option.bind_some, t2, Option.bind_some, f65_eq (by simp; omega) (by simp; omega) (by omega), Option.bind_some, ← List.map_append]
          have hml := mergeR_len (a := row) (b := left[i])
          have hlen : (left.take i ++ left.drop (i + 1)).length = m := by simp; omega
          obtain ⟨x, x1, x2, x3⟩ := ihm M (mergeR row left[i]) (left.take i ++ left.drop (i + 1)) cur hlen (by omega) (fun b hb => by
            rcases List.mem_append.1 hb with hb | hb
            · exact h8 b (List.mem_of_mem_take hb)
            · exact h8 b (List.mem_of_mem_drop hb)) (by omega) hc (by omega)
          rw [x1, Option.bind_some]
          refine ih (i + 1) x (by omega) (by omega) x2 ?_
          have hli : left[i]? = some left[i] := List.getElem?_eq_getElem h
          have hnext : ∀ R, UptoM row left (i + 1) R ↔ UptoM row left i R ∨ Leaf mergeR (mergeR row left[i]) (left.take i ++ left.drop (i + 1)) R := by
            intro R
            constructor
            · rintro ⟨j, b, j1, j2, j3⟩
              by_cases hj : j = i
              · subst hj
                rw [hli] at j2
                obtain rfl := Option.some.inj j2
                exact .inr j3
              · exact .inl ⟨j, b, by omega, j2, j3⟩
            · rintro (⟨j, b, j1, j2⟩ | hL)
              · exact ⟨j, b, by omega, j2⟩
              · exact ⟨i, left[i], by omega, hli, hL⟩
          -- cur is best of before; x is best of cur and what is new
          refine ⟨?_, fun y hy => ?_⟩
          · rcases x3.1 with h | h
            · subst h
              rcases hB.1 with h | h
              · exact .inl h
              · exact .inr ((hnext _).2 (.inl h))
            · exact .inr ((hnext _).2 (.inr h))
          · have hcur : ¬ sl cur x := x3.2 cur (.inl rfl)
            have hold : ∀ z, (z = best ∨ UptoM row left i z) → ¬ sl z x := by
              intro z hz hs
              have hzc := hB.2 z hz
              by_cases hcz : sl cur z
              · exact hcur (sl_trans hcz hs)
              · have := sl_tri hzc hcz
                subst this; exact hcur hs
            rcases hy with hy | hy
            · exact hold y (.inl hy)
            · rcases (hnext y).1 hy with hy | hy
              · exact hold y (.inr hy)
              · exact x3.2 y (.inr hy)
        · have : i = left.length := by omega
          subst this
          rw [decide_eq_false (by omega), cond_false]
          exact ⟨cur, rfl, hc, hB⟩
    obtain ⟨R, r1, r2, r3⟩ := key M 0 best (by omega) (by omega) hb ⟨.inl rfl, fun y hy => by
      rcases hy with rfl | ⟨j, b, j1, _⟩
      · exact sl_irrefl _
      · omega⟩
    refine ⟨R, r1, r2, r3.congr fun Q => ?_⟩
    refine or_congr_right ?_
    constructor
    · rintro ⟨j, b, j1, j2, j3⟩
      have hj := (List.getElem?_eq_some_iff.1 j2)
      obtain ⟨hjl, rfl⟩ := hj
      have : left = left.take j ++ left[j] :: left.drop (j + 1) := by
        rw [← List.drop_eq_getElem_cons hjl, List.take_append_drop]
      rw [this]
      refine .cons ?_
      exact j3
    · intro hQ
      obtain ⟨l1, b, l2, e1, e2⟩ := leaf_cons (by intro h; rw [h] at hl; simp at hl) hQ
      refine ⟨l1.length, b, by rw [e1]; simp, by rw [e1]; simp, ?_⟩
      have h1 : left.take l1.length = l1 := by rw [e1, List.take_left]
      have h2 : left.drop (l1.length + 1) = l2 := by
        rw [e1, ← List.drop_drop, List.drop_left]; rfl
      rw [h1, h2]; exact e2
theorem f35_loop {bs : List Row} {N : Nat} {k2 : List ByteArray → Option (ByteArray × Int)} (hN : 30 ≤ N) (hl : bs.length ≤ 100) : ∀ (m i : Nat), i ≤ bs.length → bs.length - i < m → f35_7 (bs.map strC) N k2 m ((bs.take i).map strC) (i : Int) = if errJ (bs.drop i) ≠ 0 then some (emptyS, errJ (bs.drop i)) else k2 (bs.map strC) := by
  intro m
  induction m with
  | zero => intro i _ h; omega
  | succ m ih =>
    intro i hi hm
    unfold f35_7 f35_7b
    rw [List.length_map]
    by_cases h : i < bs.length
    · rw [decide_eq_true (show (i : Int) < (bs.length : Int) by omega), cond_true, ix_strs h, Option.bind_some, f23_eq hN, Option.bind_some, strC_size, List.drop_eq_getElem_cons h, errJ]
      by_cases h1 : chk8 bs[i] = 0
      · by_cases h2 : 8 < bs[i].length
        · simp [h1, h2, show (8 : Int) < (bs[i].length : Int) by omega]
        · rw [app_strs (by simp; omega), Option.bind_some, W_nat (by omega), ← List.take_succ_eq_append_getElem h, ih (i + 1) (by omega) (by omega)]
          simp [h1, h2, show ¬ (8 : Int) < (bs[i].length : Int) by omega]
      · simp [h1]
    · have : i = bs.length := by omega
      subst this
      rw [decide_eq_false (by omega), cond_false, List.drop_length, List.take_length]
      simp [errJ]
theorem flat_len {l : List Row} (h : ∀ b ∈ l, b.length ≤ 8) : l.flatten.length ≤ 8 * l.length := by
  induction l with
  | nil => simp
  | cons x l ih =>
    have := ih fun b hb => h b (by simp [hb])
    have := h x (by simp)
    simp only [List.flatten_cons, List.length_append, List.length_cons]; omega
theorem f35_eq {bs : List Row} {N : Nat} (hN : 100 ≤ N) : (bs = [] ∧ f35 N (bs.map strC) = some (emptyS, 1)) ∨ (5 < bs.length ∧ f35 N (bs.map strC) = some (emptyS, 2)) ∨ (bs ≠ [] ∧ bs.length ≤ 5 ∧ errJ bs ≠ 0 ∧ f35 N (bs.map strC) = some (emptyS, errJ bs)) ∨
    (bs ≠ [] ∧ bs.length ≤ 5 ∧ errJ bs = 0 ∧ ∃ S, f35 N (bs.map strC) = some (strC S, 0) ∧ Joint bs S) := by
  by_cases h0 : bs = []
  · subst h0; exact .inl ⟨rfl, rfl⟩
  · have hpos := List.length_pos_iff.2 h0
    by_cases h5 : 5 < bs.length
    · refine .inr (.inl ⟨h5, ?_⟩)
      unfold f35
      rw [List.length_map, decide_eq_false (by omega), cond_false, decide_eq_true (by omega), cond_true]
    · have hloop := f35_loop (bs := bs) (N := N) (k2 := f35_c16 N) (by omega) (by omega) N 0 (by omega) (by omega)
      rw [List.drop_zero, List.take_zero, List.map_nil] at hloop
      have hf : f35 N (bs.map strC) = f35_7 (bs.map strC) N (f35_c16 N) N [] 0 := by
        unfold f35
        rw [List.length_map, decide_eq_false (by omega), cond_false, decide_eq_false (by omega), cond_false]; rfl
      rw [hf]
      rw [show ((0 : Nat) : Int) = 0 from rfl] at hloop
      rw [hloop]
      by_cases he : errJ bs = 0
      · refine .inr (.inr (.inr ⟨h0, by omega, he, ?_⟩))
        have hok := errJ_ok he
        rw [if_neg (by simp [he])]
        obtain ⟨v, hv⟩ := f74_small (n := bs.length) (by omega) N
        obtain ⟨q, q1, q2, q3, q4⟩ := f73_eq (N := N) (v := v) h0 (by omega) (fun y hy => by have := (hok y hy).2; omega) (by omega)
        have hq8 : ∀ y ∈ q, 1 ≤ y.length ∧ y.length ≤ 8 := fun y hy => hok y ((q4 y).1 hy)
        have hk : keepL (bs.map strC) (q.map strC) = some (q.map strC) := by
          unfold keepL; rw [if_pos (by simp [q2])]
        unfold f35_c16
        rw [List.length_map, hv, Option.bind_some, q1, Option.bind_some, hk, Option.bind_some]
        simp only [joinK]
        have hlong := long_loop (q := q) (N := N) (k0 := f35_c24 N) (by omega) (fun y hy => by have := (hq8 y hy).2; omega) (by omega) N 0 [] (by omega) (by omega) (by simp) (fun y hy => by cases hy)
        rw [List.drop_zero, List.map_nil, show ((0 : Nat) : Int) = 0 from rfl] at hlong
        rw [hlong]
        -- what is long
        have hL8 : ∀ y ∈ longF [] q, 1 ≤ y.length ∧ y.length ≤ 8 := fun y hy => by
          rcases longF_sub hy with h | h
          · cases h
          · exact hq8 y h
        have hLl : (longF [] q).length ≤ 5 := by
          have := longF_len (B := q) (K := []); simp at this; omega
        have hanti : Anti (longF [] q) := longF_anti q3 (fun k hk => by cases hk) (by simp [Anti])
        have hsup : ∀ S, Sup (longF [] q) S ↔ Sup bs S := by
          intro S
          constructor
          · intro h b hb
            obtain ⟨l, l1, l2⟩ := longF_cover (K := []) ((q4 b).2 hb)
            exact (h l l1).trans l2
          · intro h b hb
            rcases longF_sub hb with h' | h'
            · cases h'
            · exact h b ((q4 b).1 h')
        have hfl := flat_len fun b hb => (hL8 b hb).2
        generalize longF [] q = L at *
        unfold f35_c24
        rw [f62_eq (by omega) (by omega), Option.bind_some]
        obtain ⟨R, r1, _, r3⟩ := f63_ok L.length N [] L L.flatten rfl (by omega) (fun b hb => (hL8 b hb).2) (by simp; omega) (by omega) (by omega)
        rw [emptyS_eq, r1, Option.bind_some]
        refine ⟨R, rfl, ?_⟩
        have hJ : Joint L R := joint_of r3 (fun r hr => by
          rcases hr with rfl | hr
          · exact Sup.concat L
          · exact (hr.has (fun a b c hc => mergeR_pre hc) (fun a b => mergeR_has)).2) fun S hS => .inr (by
          have := short_merge hS L.length L 0 rfl (Nat.zero_le _) hanti (fun c hc => ⟨hc, fun hh => by
            have h1 := hh.len
            have h2 := (hL8 c hc).1
            simp at h1
            rw [h1] at h2; simp at h2⟩) fun c hc => .inl hc
          simpa using this)
        exact hJ.congr hsup
      · exact .inr (.inr (.inl ⟨h0, by omega, he, by rw [if_pos he]⟩))
end Go.Vc
namespace Go.Vc
open Go.Proofs
set_option linter.unusedVariables false
set_option linter.unnecessarySimpa false
set_option linter.unusedSimpArgs false
set_option linter.unusedSimpArgs false
end Go.Vc
namespace Go.Vc
open Go.Proofs
set_option linter.unusedVariables false
set_option linter.unnecessarySimpa false
set_option linter.unusedSimpArgs false
end Go.Vc
namespace Go.Vc
open Go.Proofs
set_option linter.unusedVariables false
set_option linter.unnecessarySimpa false
set_option linter.unusedSimpArgs false
end Go.Vc
namespace Go.Vc
open Go.Proofs
set_option linter.unusedVariables false
set_option linter.unnecessarySimpa false
set_option linter.unusedSimpArgs false
set_option linter.unusedSimpArgs false
section
variable {α : Type} {f : Nat → α}
end
def Abc (l : List UInt8) : Prop := ∀ b ∈ l, b = 97 ∨ b = 98 ∨ b = 99
theorem all_lo {l : List UInt8} (h : l.all okb = true) (i : Nat) (hi : i < l.length) : l[i].toNat < 128 := by
  have := List.all_eq_true.1 h l[i] (List.getElem_mem hi)
  simp [okb] at this
  omega
theorem sub_end' {l : List UInt8} {i : Nat} (hi : i ≤ l.length) : subS (strC l) (i : Int) (l.length : Int) = some (strC (l.drop i)) := by
  rw [subS_L hi (Nat.le_refl _), List.take_length]
theorem abc_sub {x : Int} (h : 0 ≤ x) : ∃ b : UInt8, (b = 97 ∨ b = 98 ∨ b = 99) ∧ ((subS (strC [97, 98, 99]) (Int.tmod x 3) ((strC [97, 98, 99]).size : Int)).bind fun y => subS y 0 1) = some (strC [b]) := by
  obtain ⟨m, rfl⟩ : ∃ m : Nat, x = m := ⟨x.toNat, by omega⟩
  have e : Int.tmod (m : Int) 3 = ((m % 3 : Nat) : Int) := rfl
  rw [e]
  have h3 : m % 3 < 3 := Nat.mod_lt _ (by omega)
  rcases (by omega : m % 3 = 0 ∨ m % 3 = 1 ∨ m % 3 = 2) with h | h | h <;> rw [h]
  · exact ⟨97, by simp, rfl⟩
  · exact ⟨98, by simp, rfl⟩
  · exact ⟨99, by simp, rfl⟩
theorem bind2 {α β γ : Type} {x : Option α} {f : α → Option β} {g : β → Option γ} {y : β} (h : x.bind f = some y) : (x.bind fun a => (f a).bind g) = g y := by
  cases x with
  | none => cases h
  | some a =>
    simp only [Option.bind_some] at h ⊢
    rw [h]; rfl
theorem Abc.snoc {l : List UInt8} {b : UInt8} (h : Abc l) (hb : b = 97 ∨ b = 98 ∨ b = 99) : Abc (l ++ [b]) := by
  intro x hx
  rcases List.mem_append.1 hx with hx | hx
  · exact h x hx
  · rw [List.mem_singleton.1 hx]; exact hb
theorem f41_loop {w : List Int} {m : Nat} (hm : 1 ≤ m) (hm2 : m ≤ 100) (hw : ∀ x ∈ w, 0 ≤ x) : ∀ (n i : Nat) (l : List UInt8), l.length ≤ m → Abc l → m - l.length < n → i ≤ w.length → i ≤ l.length →
    ∃ l', f41_3 w (m : Int) f41_c9 n (strC l) (i : Int) = some (strC l') ∧ 1 ≤ l'.length ∧ l'.length ≤ m ∧ Abc l' := by
  have fin : ∀ l : List UInt8, l.length ≤ m → Abc l → ∃ l', f41_c9 (strC l) = some (strC l') ∧ 1 ≤ l'.length ∧ l'.length ≤ m ∧ Abc l' := by
    intro l h1 h2
    unfold f41_c9
    by_cases h : l = []
    · subst h
      exact ⟨[97], by simp [emptyS_eq], by simp, by simpa using hm, by intro b hb; simp at hb; simp [hb]⟩
    · exact ⟨l, by simp [emptyS_eq, strC_inj, h], List.length_pos_iff.2 h, h1, h2⟩
  intro n
  induction n with
  | zero => intro i l _ _ h; omega
  | succ n ih =>
    intro i l hl ha hn hi hil
    unfold f41_3 f41_3b
    by_cases h : i < w.length
    · simp only [show (i : Int) < (w.length : Int) by omega, decide_true, cond_true]
      by_cases h2 : l.length < m
      · simp only [strC_size, show (l.length : Int) < (m : Int) by omega, decide_true, cond_true, ix_get h, Option.bind_some]
        have hx := hw w[i] (List.getElem_mem h)
        rw [W_nat (by omega)]
        have plain : ∃ l', (((subS (strC [97, 98, 99]) (Int.tmod w[i] 3) ((strC [97, 98, 99]).size : Int)).bind fun x8 => (subS x8 0 1).bind fun x9 => (addS (strC l) x9).bind fun x10 => f41_3 w (m : Int) f41_c9 n x10 ((i + 1 : Nat) : Int))) = some (strC l') ∧ 1 ≤ l'.length ∧ l'.length ≤ m ∧ Abc l' := by
          obtain ⟨b, hb, e⟩ := abc_sub hx
          rw [bind2 e, addS_L (by simp; omega), Option.bind_some]
          exact ih (i + 1) (l ++ [b]) (by simp; omega) (ha.snoc hb) (by simp; omega) (by omega) (by simp; omega)
        simp only [strC_size] at plain
        by_cases h3 : (128 : Int) ≤ w[i]
        · simp only [h3, decide_true, cond_true]
          by_cases h4 : l = []
          · subst h4
            simp only [List.length_nil]
            exact plain
          · have h5 := List.length_pos_iff.2 h4
            have : decide ((l.length : Int) ≠ 0) = true := decide_eq_true (by omega)
            simp only [show (0 : Int) < (l.length : Int) by omega, decide_true, cond_true, this, chk, Option.bind_some]
            obtain ⟨x, hx'⟩ : ∃ x : Nat, w[i] = x := ⟨w[i].toNat, by omega⟩
            rw [hx']
            have ht : Int.tmod (x : Int) (l.length : Int) = ((x % l.length : Nat) : Int) := rfl
            have hlt := Nat.mod_lt x h5
            rw [ht]
            generalize hq : x % l.length = q at *
            rw [show (l.length : Int) - 1 = ((l.length - 1 : Nat) : Int) by omega, W_of (n := ((l.length - 1 : Nat) : Int)) (by omega) (by omega), show ((l.length - 1 : Nat) : Int) - (q : Int) = ((l.length - 1 - q : Nat) : Int) by omega, W_of (by omega) (by omega), sub_end' (by omega), Option.bind_some]
            have s1 := subS_L (l := l.drop (l.length - 1 - q)) (a := 0) (b := 1) (by omega) (by simp; omega)
            rw [show ((0 : Nat) : Int) = 0 from rfl, show ((1 : Nat) : Int) = 1 from rfl] at s1
            rw [s1, Option.bind_some, List.drop_zero, List.drop_eq_getElem_cons (by omega)]
            simp only [List.take_succ_cons, List.take_zero]
            rw [addS_L (by simp; omega), Option.bind_some]
            exact ih (i + 1) _ (by simp; omega) (ha.snoc (ha _ (List.getElem_mem _))) (by simp; omega) (by omega) (by simp; omega)
        · simp only [h3, decide_false, cond_false]
          exact plain
      · simp only [strC_size, show ¬ (l.length : Int) < (m : Int) by omega, decide_false, cond_false]
        exact fin l hl ha
    · simp only [show ¬ (i : Int) < (w.length : Int) by omega, decide_false, cond_false]
      exact fin l hl ha
theorem f41_eq {w : List Int} {m N : Nat} (hm : 1 ≤ m) (hm2 : m ≤ 100) (hw : ∀ x ∈ w, 0 ≤ x) (hN : m < N) : ∃ l, f41 N w (m : Int) = some (strC l) ∧ 1 ≤ l.length ∧ l.length ≤ m ∧ Abc l := by
  unfold f41
  simp only [joinK, emptyS_eq]
  exact f41_loop hm hm2 hw N 0 [] (by simp) (by intro b hb; cases hb) (by simp; omega) (by omega) (by simp)
theorem Abc.ok {l : List UInt8} (h : Abc l) : l.all okb = true := by
  rw [List.all_eq_true]
  intro b hb
  rcases h b hb with rfl | rfl | rfl <;> decide
theorem Abc.chk {l : List UInt8} (h : Abc l) (h1 : 1 ≤ l.length) (h2 : l.length ≤ 24) : chk8 l = 0 :=
  chk8_zero.2 ⟨by rintro rfl; simp at h1, h2, h.ok⟩
end Go.Vc
namespace Go.Vc
open Go.Proofs
set_option linter.unusedVariables false
set_option linter.unnecessarySimpa false
set_option linter.unusedSimpArgs false
set_option linter.unusedSimpArgs false
open Classical in
theorem f44_eq {a b : Row} {N : Nat} (ha : a.length ≤ 1000) (hb : b.length ≤ 1000) (hN : a.length + 1 < N) : f44 N (strC a) (strC b) = some (decide (Has a b)) := by
  unfold f44
  simp only [joinK]
  rw [loop_ex0 (F := f44_2 (strC a) (strC b) f44_c6) (k0 := f44_c6) (e := some true) (p := fun i => At a b i) (a.length + 1 - b.length)]
  · by_cases h : Has a b
    · obtain ⟨i, hi⟩ := h
      have := hi.1
      rw [if_pos ⟨i, by omega, hi⟩, decide_eq_true ⟨i, hi⟩]
    · rw [if_neg fun ⟨j, _, hj⟩ => h ⟨j, hj⟩, decide_eq_false h]; rfl
  · intro n i hi
    conv => lhs; unfold f44_2 f44_2b
    have s2 := subS_L (l := a.drop i) (a := 0) (b := b.length) (by omega) (by simp; omega)
    rw [List.drop_zero] at s2
    rw [strC_size, strC_size, show ((i : Int) + (b.length : Int)) = ((i + b.length : Nat) : Int) by omega, W_of (by omega) (by omega), decide_eq_true (show ((i + b.length : Nat) : Int) ≤ (a.length : Int) by omega), cond_true, sub_end (by omega), Option.bind_some, show subS (strC (a.drop i)) 0 (b.length : Int) = _ from s2, Option.bind_some, W_nat (by omega)]
    by_cases h : (a.drop i).take b.length = b
    · rw [if_pos ⟨by omega, h⟩, decide_eq_true (strC_inj.2 h)]; rfl
    · rw [if_neg fun hh => h hh.2, decide_eq_false fun hh => h (strC_inj.1 hh)]; rfl
  · intro n
    conv => lhs; unfold f44_2 f44_2b
    rw [strC_size, strC_size, W_of (by omega) (by omega), decide_eq_false (by omega)]; rfl
  · omega
open Classical in
theorem all_in {bs : List Row} {row : Row} {N : Nat} {a1 : List ByteArray} {a2 : Int} {k1 : Bool → Option Bool} (h1 : a1 = bs.map strC) (hbs : bs.length ≤ 100) (h8 : ∀ b ∈ bs, b.length ≤ 100) (hr : row.length ≤ 100) (hN : 200 ≤ N) :
    ∀ (m i : Nat) (v : Bool), i ≤ bs.length → bs.length - i < m → f45_3 (strC row) a1 a2 N k1 m v (i : Int) = k1 (v && decide (Sup (bs.drop i) row)) := by
  subst h1
  intro m
  induction m with
  | zero => intro i v _ h; omega
  | succ m ih =>
    intro i v hi hm
    unfold f45_3 f45_3b
    rw [List.length_map]
    by_cases h : i < bs.length
    · rw [decide_eq_true (show (i : Int) < (bs.length : Int) by omega), cond_true, ix_strs h, Option.bind_some, W_nat (by omega)]
      have hs : Sup (bs.drop i) row ↔ Has row bs[i] ∧ Sup (bs.drop (i + 1)) row := by
        rw [List.drop_eq_getElem_cons h]
        unfold Sup
        constructor
        · intro hh; exact ⟨hh _ List.mem_cons_self, fun b hb => hh b (List.mem_cons_of_mem _ hb)⟩
        · rintro ⟨h1, h2⟩ b hb
          rcases List.mem_cons.1 hb with rfl | hb
          · exact h1
          · exact h2 b hb
      cases v with
      | false =>
        rw [cond_false, ih (i + 1) false (by omega) (by omega)]; simp
      | true =>
        rw [cond_true, f44_eq (by omega) (by have := h8 bs[i] (List.getElem_mem h); omega) (by omega), Option.bind_some, ih (i + 1) _ (by omega) (by omega)]
        congr 1
        by_cases q1 : Has row bs[i]
        · by_cases q2 : Sup (bs.drop (i + 1)) row
          · rw [decide_eq_true q1, decide_eq_true q2, decide_eq_true (hs.2 ⟨q1, q2⟩)]
          · rw [decide_eq_true q1, decide_eq_false q2, decide_eq_false fun hh => q2 (hs.1 hh).2]
        · rw [decide_eq_false q1, decide_eq_false fun hh => q1 (hs.1 hh).1]; rfl
    · have : i = bs.length := by omega
      subst this
      rw [decide_eq_false (by omega), cond_false, List.drop_length, decide_eq_true (show Sup [] row from fun b hb => by cases hb), Bool.and_true]
open Classical in
theorem f45_ok {bs : List Row} (hbs : bs.length ≤ 100) (h8 : ∀ b ∈ bs, b.length ≤ 100) {most : Nat} (hmost : most ≤ 50) :
    ∀ (d N : Nat) (row : Row), row.length + d = most → 210 + d ≤ N → ∃ b, f45 N (strC row) (bs.map strC) (most : Int) = some b ∧ (b = true → ∃ T : Row, Sup bs T ∧ T.length ≤ most) := by
  intro d
  induction d with
  | zero =>
    intro N row hd hN
    obtain ⟨M, rfl⟩ : ∃ M, N = M + 1 := ⟨N - 1, by omega⟩
    rw [f45]
    unfold f45b
    simp only [joinK]
    have := all_in (bs := bs) (row := row) (N := M) (a1 := bs.map strC) (a2 := (most : Int)) (k1 := f45_c7 (strC row) (bs.map strC) (most : Int) M (f45 M)) rfl hbs h8 (by omega) (by omega) M 0 true (by omega) (by omega)
    rw [show ((0 : Nat) : Int) = 0 from rfl, List.drop_zero, Bool.true_and] at this
    rw [this]
    unfold f45_c7
    by_cases hs : Sup bs row
    · rw [decide_eq_true hs]
      exact ⟨true, rfl, fun _ => ⟨row, hs, by omega⟩⟩
    · rw [decide_eq_false hs, cond_false, strC_size, decide_eq_true (by omega), cond_true]
      exact ⟨false, rfl, by intro h; cases h⟩
  | succ d ih =>
    intro N row hd hN
    obtain ⟨M, rfl⟩ : ∃ M, N = M + 1 := ⟨N - 1, by omega⟩
    rw [f45]
    unfold f45b
    simp only [joinK]
    have := all_in (bs := bs) (row := row) (N := M) (a1 := bs.map strC) (a2 := (most : Int)) (k1 := f45_c7 (strC row) (bs.map strC) (most : Int) M (f45 M)) rfl hbs h8 (by omega) (by omega) M 0 true (by omega) (by omega)
    rw [show ((0 : Nat) : Int) = 0 from rfl, List.drop_zero, Bool.true_and] at this
    rw [this]
    unfold f45_c7
    by_cases hs : Sup bs row
    · rw [decide_eq_true hs]
      exact ⟨true, rfl, fun _ => ⟨row, hs, by omega⟩⟩
    · rw [decide_eq_false hs, cond_false, strC_size, decide_eq_false (by omega), cond_false]
      simp only [joinK]
      obtain ⟨K, rfl⟩ : ∃ K, M = K + 4 := ⟨M - 4, by omega⟩
      have i0 : ix [strC [97], strC [98], strC [99]] 0 = some (strC [97]) := rfl
      have i1 : ix [strC [97], strC [98], strC [99]] 1 = some (strC [98]) := rfl
      have i2 : ix [strC [97], strC [98], strC [99]] 2 = some (strC [99]) := rfl
      have w0 : W ((0 : Int) + 1) = 1 := by decide
      have w1 : W ((1 : Int) + 1) = 2 := by decide
      have w2 : W ((2 : Int) + 1) = 3 := by decide
      have c0 : decide ((0 : Int) < (List.length [strC [97], strC [98], strC [99]] : Int)) = true := by simp
      have c1 : decide ((1 : Int) < (List.length [strC [97], strC [98], strC [99]] : Int)) = true := by simp
      have c2 : decide ((2 : Int) < (List.length [strC [97], strC [98], strC [99]] : Int)) = true := by simp
      have c3 : decide ((3 : Int) < (List.length [strC [97], strC [98], strC [99]] : Int)) = false := by simp
      obtain ⟨b1, e1, t1⟩ := ih (K + 4) (row ++ [97]) (by simp; omega) (by omega)
      obtain ⟨b2, e2, t2⟩ := ih (K + 4) (row ++ [98]) (by simp; omega) (by omega)
      obtain ⟨b3, e3, t3⟩ := ih (K + 4) (row ++ [99]) (by simp; omega) (by omega)
      have a1 : addS (strC row) (strC [97]) = some (strC (row ++ [97])) := addS_L (by simp; omega)
      have a2 : addS (strC row) (strC [98]) = some (strC (row ++ [98])) := addS_L (by simp; omega)
      have a3 : addS (strC row) (strC [99]) = some (strC (row ++ [99])) := addS_L (by simp; omega)
      have u : ∀ m (v : Int), f45_10 (strC row) (bs.map strC) (most : Int) (f45 (K + 4)) f45_c15 (m + 1) v = f45_10b (f45_10 (strC row) (bs.map strC) (most : Int) (f45 (K + 4)) f45_c15 m) (strC row) (bs.map strC) (most : Int) (f45 (K + 4)) f45_c15 v := fun _ _ => rfl
      rw [show f45_10 (strC row) (bs.map strC) (most : Int) (f45 (K + 4)) f45_c15 (K + 4) 0 = f45_10b (f45_10 (strC row) (bs.map strC) (most : Int) (f45 (K + 4)) f45_c15 (K + 3)) (strC row) (bs.map strC) (most : Int) (f45 (K + 4)) f45_c15 0 from rfl]
      unfold f45_10b
      rw [c0, cond_true, i0, Option.bind_some, a1, Option.bind_some, e1, Option.bind_some, w0]
      cases b1 with
      | true => exact ⟨true, rfl, fun _ => t1 rfl⟩
      | false =>
        rw [cond_false, show f45_10 (strC row) (bs.map strC) (most : Int) (f45 (K + 4)) f45_c15 (K + 3) 1 = f45_10b (f45_10 (strC row) (bs.map strC) (most : Int) (f45 (K + 4)) f45_c15 (K + 2)) (strC row) (bs.map strC) (most : Int) (f45 (K + 4)) f45_c15 1 from rfl]
        unfold f45_10b
        rw [c1, cond_true, i1, Option.bind_some, a2, Option.bind_some, e2, Option.bind_some, w1]
        cases b2 with
        | true => exact ⟨true, rfl, fun _ => t2 rfl⟩
        | false =>
          rw [cond_false, show f45_10 (strC row) (bs.map strC) (most : Int) (f45 (K + 4)) f45_c15 (K + 2) 2 = f45_10b (f45_10 (strC row) (bs.map strC) (most : Int) (f45 (K + 4)) f45_c15 (K + 1)) (strC row) (bs.map strC) (most : Int) (f45 (K + 4)) f45_c15 2 from rfl]
          unfold f45_10b
          rw [c2, cond_true, i2, Option.bind_some, a3, Option.bind_some, e3, Option.bind_some, w2]
          cases b3 with
          | true => exact ⟨true, rfl, fun _ => t3 rfl⟩
          | false =>
            rw [cond_false, show f45_10 (strC row) (bs.map strC) (most : Int) (f45 (K + 4)) f45_c15 (K + 1) 3 = f45_10b (f45_10 (strC row) (bs.map strC) (most : Int) (f45 (K + 4)) f45_c15 K) (strC row) (bs.map strC) (most : Int) (f45 (K + 4)) f45_c15 3 from rfl]
            unfold f45_10b
            rw [c3, cond_false]
            exact ⟨false, rfl, by intro h; cases h⟩
theorem Has.rev {S b : Row} (h : Has S b) : Has S.reverse b.reverse := by
  obtain ⟨i, hi⟩ := h
  rw [hi.parts, List.reverse_append, List.reverse_append, List.append_assoc]
  exact Has.of_parts
theorem Sup.rev {bs : List Row} {S : Row} (h : Sup bs S) : Sup (bs.map List.reverse) S.reverse := by
  intro b hb
  obtain ⟨c, hc, rfl⟩ := List.mem_map.1 hb
  exact (h c hc).rev
theorem joint_rev {bs : List Row} {S T : Row} (h1 : Joint bs S) (h2 : Joint (bs.map List.reverse) T) : T.length = S.length := by
  have a := h2.short.2 _ (Sup.rev h1.1)
  have b := h1.short.2 T.reverse (by
    have := Sup.rev h2.1
    rw [List.map_map] at this
    have e : List.reverse ∘ List.reverse = (id : Row → Row) := by funext x; simp
    rw [e, List.map_id] at this
    exact this)
  simp at a b; omega
structure GoodL (bs : List Row) : Prop where
  ne : bs ≠ []
  len : bs.length ≤ 5
  abc : ∀ b ∈ bs, Abc b ∧ 1 ≤ b.length ∧ b.length ≤ 3
theorem errJ_zero : ∀ {l : List Row}, (∀ b ∈ l, chk8 b = 0 ∧ b.length ≤ 8) → errJ l = 0 := by
  intro l
  induction l with
  | nil => intro _; rfl
  | cons x l ih =>
    intro h
    obtain ⟨h1, h2⟩ := h x (by simp)
    rw [errJ, if_neg (by simp [h1]), if_neg (by omega)]
    exact ih fun b hb => h b (by simp [hb])
theorem GoodL.join {bs : List Row} (h : GoodL bs) {N : Nat} (hN : 100 ≤ N) : ∃ S, f35 N (bs.map strC) = some (strC S, 0) ∧ Joint bs S := by
  have he : errJ bs = 0 := errJ_zero fun b hb => by
    obtain ⟨a1, a2, a3⟩ := h.abc b hb
    exact ⟨a1.chk a2 (by omega), by omega⟩
  have h5 := h.len
  rcases f35_eq (bs := bs) hN with ⟨a1, a2⟩ | ⟨a1, a2⟩ | ⟨a1, a2, a3, a4⟩ | ⟨a1, a2, a3, S, a4, a5⟩
  · exact absurd a1 h.ne
  · omega
  · exact absurd he a3
  · exact ⟨S, a4, a5⟩
theorem Abc.rev {l : Row} (h : Abc l) : Abc l.reverse := fun b hb => h b (by simpa using hb)
theorem f13_rev {a0 : List (List Int)} {a1 : Int} {v5 v6 : List ByteArray} {v7 v8 : Int} {l : Row} {k5 : ByteArray → Option Bool} (hl : l.length ≤ 24) (ha : Abc l) :
    ∀ (n i : Nat), i ≤ l.length → l.length - i < n → f13_8 a0 a1 v5 v6 v7 v8 (strC l) k5 n (strC (l.take i).reverse) i = k5 (strC l.reverse) := by
  intro n
  induction n with
  | zero => intro i _ h; omega
  | succ n ih =>
    intro i hi hn
    unfold f13_8 f13_8b
    by_cases h : i < l.length
    · have hlo : l[i].toNat < 128 := all_lo ha.ok i h
      simp only [strC_size, h, decide_true, cond_true, Option.bind_some]
      rw [rune_lo h hlo, sub_end (by omega), Option.bind_some]
      have s1 := subS_L (l := l.drop i) (a := 0) (b := 1) (by omega) (by simp; omega)
      rw [show ((0 : Nat) : Int) = 0 from rfl, show ((1 : Nat) : Int) = 1 from rfl, List.drop_zero, List.drop_eq_getElem_cons h] at s1
      simp only [List.take_succ_cons, List.take_zero] at s1
      rw [List.drop_eq_getElem_cons h, s1, Option.bind_some, addS_L (by simp; omega), Option.bind_some]
      have t1 : [l[i]] ++ (l.take i).reverse = (l.take (i + 1)).reverse := by
        rw [List.take_succ_eq_append_getElem h, List.reverse_append]; rfl
      rw [t1]
      exact ih (i + 1) (by omega) (by omega)
    · have : i = l.length := by omega
      subst this
      simp only [strC_size, Nat.lt_irrefl, decide_false, cond_false, List.take_length]
structure Made (bs : List Row) (i : Nat) (sum : Int) : Prop where
  len : bs.length ≤ i
  i4 : bs.length ≤ 4
  abc : ∀ b ∈ bs, Abc b ∧ 1 ≤ b.length ∧ b.length ≤ 3
  sum : sum = (bs.flatten.length : Int)
theorem flat3 {l : List Row} (h : ∀ b ∈ l, b.length ≤ 3) : l.flatten.length ≤ 3 * l.length := by
  induction l with
  | nil => simp
  | cons x l ih =>
    have := ih fun b hb => h b (by simp [hb])
    have := h x (by simp)
    simp only [List.flatten_cons, List.length_append, List.length_cons]; omega
theorem made_loop {a0 : List (List Int)} {a1 : Int} {N : Nat} {k3 : List ByteArray → List ByteArray → Int → Option Bool} (hw : ∀ w ∈ a0, ∀ x ∈ w, 0 ≤ x) (hN : 60 ≤ N) :
    ∀ (m i : Nat) (bs : List Row) (sum : Int), i ≤ 4 → i ≤ a0.length → 4 - i < m → Made bs i sum → bs.length = i →
    ∃ (cs : List Row) (s : Int), f13_4 a0 a1 N k3 m (bs.map strC) ((bs.map List.reverse).map strC) sum (i : Int) = k3 (cs.map strC) ((cs.map List.reverse).map strC) s ∧ Made cs 4 s := by
  intro m
  induction m with
  | zero => intro i _ _ _ _ h; omega
  | succ m ih =>
    intro i bs sum hi hi2 hm hM hlen
    unfold f13_4 f13_4b
    by_cases h : i < a0.length
    · rw [decide_eq_true (show (i : Int) < (a0.length : Int) by omega), cond_true]
      by_cases h4 : i < 4
      · rw [decide_eq_true (show (i : Int) < 4 by omega), cond_true]
        simp only [joinK]
        rw [ix_get h, Option.bind_some]
        obtain ⟨l, e, l1, l2, l3⟩ := f41_eq (w := a0[i]) (m := 3) (N := N) (by omega) (by omega) (hw _ (List.getElem_mem h)) (by omega)
        rw [show ((3 : Nat) : Int) = 3 from rfl] at e
        rw [e, Option.bind_some]
        have hr := f13_rev (a0 := a0) (a1 := a1) (v5 := bs.map strC) (v6 := (bs.map List.reverse).map strC) (v7 := sum) (v8 := (i : Int)) (l := l) (k5 := f13_c11 a0 a1 (bs.map strC) ((bs.map List.reverse).map strC) sum (i : Int) (f13_c5 a0 a1 (i : Int) (f13_4 a0 a1 N k3 m)) (strC l)) (by omega) l3 N 0 (by omega) (by omega)
        rw [List.take_zero, List.reverse_nil] at hr
        rw [emptyS_eq, hr]
        unfold f13_c11 f13_c5
        have ab : ∀ b : Row, app 16 ((bs.map List.reverse).map strC) [strC b] = some (((bs.map List.reverse) ++ [b]).map strC) := fun b => app_strs (by simp; omega)
        rw [app_strs (by omega), Option.bind_some, ab, Option.bind_some, strC_size, W_nat (by omega)]
        have hfl := flat3 fun b hb => (hM.abc b hb).2.2
        have hs := hM.sum
        have h44 := hM.i4
        have hsum : W (sum + (l.length : Int)) = ((bs ++ [l]).flatten.length : Int) := by
          rw [hs, W_of (by omega) (by omega)]; simp
        rw [hsum]
        have hmap : (bs.map List.reverse) ++ [l.reverse] = (bs ++ [l]).map List.reverse := by simp
        rw [hmap]
        refine ih (i + 1) (bs ++ [l]) _ (by omega) (by omega) (by omega) ⟨by simp; omega, by simp; omega, fun b hb => ?_, rfl⟩ (by simp; omega)
        rcases List.mem_append.1 hb with hb | hb
        · exact hM.abc b hb
        · simp at hb; subst hb; exact ⟨l3, l1, l2⟩
      · rw [decide_eq_false (show ¬ (i : Int) < 4 by omega), cond_false]
        exact ⟨bs, sum, rfl, by have := hM.i4; omega, hM.i4, hM.abc, hM.sum⟩
    · rw [decide_eq_false (show ¬ (i : Int) < (a0.length : Int) by omega), cond_false]
      exact ⟨bs, sum, rfl, by have := hM.i4; omega, hM.i4, hM.abc, hM.sum⟩
theorem t15_300 : f15 300 = some true := by decide +kernel
theorem more_piece {bs : List Row} {S : Row} (hG : GoodL bs) (h4 : bs.length ≤ 4) (hS : Joint bs S) : ((ix (bs.map strC) 0).bind fun x10 => (subS x10 0 1).bind fun x11 => (app 16 [x11] (bs.map strC)).bind fun x12 => (f35 300 x12).bind fun x13 =>
    bif decide (x13.2 = (0 : Int)) then (bif decide (x13.1 = strC S) then ((f15 300).bind fun x14 => some x14) else some false) else some false) = some true := by
  cases bs with
  | nil => exact absurd rfl hG.ne
  | cons b r =>
    have hb := hG.abc b (by simp)
    have i0 : ix ((b :: r).map strC) 0 = some (strC b) := rfl
    have s1 := subS_L (l := b) (a := 0) (b := 1) (by omega) hb.2.1
    rw [List.drop_zero, show ((0 : Nat) : Int) = 0 from rfl, show ((1 : Nat) : Int) = 1 from rfl] at s1
    have ap : app 16 [strC (b.take 1)] ((b :: r).map strC) = some ((b.take 1 :: b :: r).map strC) := by
      rw [app_ok (by simp at h4 ⊢; omega) (by simp at h4 ⊢; omega)]; rfl
    rw [i0, Option.bind_some, s1, Option.bind_some, ap, Option.bind_some]
    have hG2 : GoodL (b.take 1 :: b :: r) := ⟨by simp, by simp at h4 ⊢; omega, fun c hc => by
      rcases List.mem_cons.1 hc with rfl | hc
      · exact ⟨fun x hx => hb.1 x (List.mem_of_mem_take hx), by simp; omega, by simp; omega⟩
      · exact hG.abc c hc⟩
    obtain ⟨T, t1, t2⟩ := hG2.join (N := 300) (by omega)
    have hsame : ∀ U, Sup (b.take 1 :: b :: r) U ↔ Sup (b :: r) U := by
      intro U
      constructor
      · intro h c hc; exact h c (by simp [hc])
      · intro h c hc
        rcases List.mem_cons.1 hc with rfl | hc
        · refine (h b (by simp)).trans ?_
          conv => arg 1; rw [← List.take_append_drop 1 b]
          exact Has.refl.right
        · exact h c hc
    have : T = S := (t2.congr hsame).uniq hS
    subst this
    rw [t1, Option.bind_some, t15_300]
    simp
theorem less_one {bs : List Row} {S : Row} {a1 : Nat} (hG : GoodL bs) (h4 : bs.length ≤ 4) (h2 : 1 < bs.length) (hS : Joint bs S) : f13_c30 (a1 : Int) 300 (bs.map strC) (strC S, 0) = some true := by
  unfold f13_c30
  rw [List.length_map, show Int.tmod (a1 : Int) (bs.length : Int) = ((a1 % bs.length : Nat) : Int) from rfl]
  have hlt := Nat.mod_lt a1 (show bs.length > 0 by omega)
  generalize a1 % bs.length = k at hlt
  have t1 : sub (bs.map strC) 0 (k : Int) = some ((bs.take k).map strC) := by
    have := sub_nat (l := bs.map strC) (a := 0) (b := k) (by omega) (by simp; omega)
    rw [show ((0 : Nat) : Int) = 0 from rfl] at this
    rw [this, List.drop_zero, List.map_take]
  have t2 : sub (bs.map strC) ((k + 1 : Nat) : Int) (bs.length : Int) = some ((bs.drop (k + 1)).map strC) := by
    have := sub_nat (l := bs.map strC) (a := k + 1) (b := bs.length) (by omega) (by simp)
    rw [this, List.take_of_length_le (by simp), List.map_drop]
  rw [t1, Option.bind_some, app_ok (by simp; omega) (by simp; omega), Option.bind_some, List.nil_append, W_nat (by omega), t2, Option.bind_some, app_ok (by simp; omega) (by simp; omega), Option.bind_some, ← List.map_append]
  have hG2 : GoodL (bs.take k ++ bs.drop (k + 1)) := ⟨by
    intro h
    have hl : (bs.take k ++ bs.drop (k + 1)).length = bs.length - 1 := by rw [List.length_append, List.length_take, List.length_drop]; omega
    rw [h] at hl
    simp only [List.length_nil] at hl
    omega, by rw [List.length_append, List.length_take, List.length_drop]; omega, fun c hc => by
    rcases List.mem_append.1 hc with hc | hc
    · exact hG.abc c (List.mem_of_mem_take hc)
    · exact hG.abc c (List.mem_of_mem_drop hc)⟩
  obtain ⟨T, u1, u2⟩ := hG2.join (N := 300) (by omega)
  have hle : T.length ≤ S.length := u2.short.2 S fun c hc => by
    rcases List.mem_append.1 hc with hc | hc
    · exact hS.1 c (List.mem_of_mem_take hc)
    · exact hS.1 c (List.mem_of_mem_drop hc)
  rw [u1, Option.bind_some]
  simp only [not_true, decide_false, cond_false, strC_size]
  rw [decide_eq_false (show ¬ (S.length : Int) < (T.length : Int) by omega), cond_false]
  exact more_piece hG h4 hS
open Classical in
theorem f13_true (a0 : List (List Int)) (a1 : Int) (hw : ∀ w ∈ a0, ∀ x ∈ w, 0 ≤ x) (h1 : 0 ≤ a1) : f13 300 a0 a1 = some true := by
  unfold f13
  simp only [joinK]
  obtain ⟨bs, s, e, hM⟩ := made_loop (a0 := a0) (a1 := a1) (N := 300) (k3 := f13_c13 a1 300) hw (by omega) 300 0 [] 0 (by omega) (by omega) (by omega) ⟨by simp, by simp, (fun b hb => by cases hb), rfl⟩ rfl
  rw [List.map_nil, List.map_nil, List.map_nil, show ((0 : Nat) : Int) = 0 from rfl] at e
  rw [e]
  obtain ⟨m1, m2, m3, m4⟩ := hM
  unfold f13_c13
  rw [List.length_map]
  by_cases h0 : bs = []
  · subst h0
    rw [decide_eq_true (show (([] : List Row).length : Int) = 0 from rfl), cond_true]
    rcases f35_eq (bs := []) (N := 300) (by omega) with ⟨_, a2⟩ | ⟨a1, _⟩ | ⟨a1, _⟩ | ⟨a1, _⟩
    · rw [a2, Option.bind_some, t15_300]; rfl
    · simp at a1
    · exact absurd rfl a1
    · exact absurd rfl a1
  · have hpos := List.length_pos_iff.2 h0
    rw [decide_eq_false (show ¬ (bs.length : Int) = 0 by omega), cond_false]
    have hG : GoodL bs := ⟨h0, by omega, m3⟩
    have hG2 : GoodL (bs.map List.reverse) := ⟨by simpa using h0, by simpa using (by omega : bs.length ≤ 5), fun c hc => by
      obtain ⟨b, hb, rfl⟩ := List.mem_map.1 hc
      obtain ⟨b1, b2, b3⟩ := m3 b hb
      exact ⟨b1.rev, by simpa using b2, by simpa using b3⟩⟩
    obtain ⟨S, s1, s2⟩ := hG.join (N := 300) (by omega)
    obtain ⟨T, t1, t2⟩ := hG2.join (N := 300) (by omega)
    have hTS := joint_rev s2 t2
    have hfl := flat3 fun b hb => (m3 b hb).2.2
    have hcat := s2.short.2 _ (Sup.concat bs)
    have hS1 : 1 ≤ S.length := by
      obtain ⟨b, hb⟩ := List.exists_mem_of_ne_nil bs h0
      have := (s2.1 b hb).len
      have := (m3 b hb).2.1
      omega
    rw [s1, Option.bind_some, t1, Option.bind_some]
    simp only [not_true, decide_false, cond_false, strC_size, joinK]
    rw [decide_eq_false (show ¬ (S.length : Int) < 1 by omega), cond_false, m4, decide_eq_false (show ¬ (bs.flatten.length : Int) < (S.length : Int) by omega), cond_false, hTS]
    simp only [not_true, decide_false, cond_false]
    -- each border is a piece
    rw [loop_ex0 (F := f13_21 a1 300 (bs.map strC) (strC S, 0) (f13_c26 a1 300 (bs.map strC) (strC S, 0))) (k0 := f13_c26 a1 300 (bs.map strC) (strC S, 0)) (e := some false) (p := fun _ => False) bs.length]
    · rw [if_neg (by rintro ⟨_, _, h⟩; exact h)]
      unfold f13_c26
      simp only [joinK]
      -- the rest
      have rest : f13_c28 a1 300 (bs.map strC) (strC S, 0) = some true := by
        unfold f13_c28
        rw [List.length_map]
        by_cases h2 : 1 < bs.length
        · rw [decide_eq_true (show (1 : Int) < (bs.length : Int) by omega), cond_true]
          simp only [joinK]
          have hc : chk (decide ((bs.length : Int) ≠ 0)) = some () := by rw [decide_eq_true (by omega)]; rfl
          obtain ⟨u, rfl⟩ : ∃ u : Nat, a1 = u := ⟨a1.toNat, by omega⟩
          rw [hc, Option.bind_some]
          exact less_one hG m2 h2 s2
        · rw [decide_eq_false (show ¬ (1 : Int) < (bs.length : Int) by omega), cond_false]
          exact more_piece hG m2 s2
      rw [rest, strC_size]
      by_cases h9 : S.length ≤ 9
      · rw [decide_eq_true (show (S.length : Int) ≤ 9 by omega), cond_true, show ((S.length : Int) - 1) = ((S.length - 1 : Nat) : Int) by omega, W_of (by omega) (by omega)]
        obtain ⟨b, b1, b2⟩ := f45_ok (bs := bs) (by omega) (fun b hb => by have := (m3 b hb).2.2; omega) (most := S.length - 1) (by omega) (S.length - 1) 300 [] (by simp) (by omega)
        rw [emptyS_eq, b1, Option.bind_some]
        cases b with
        | false => rfl
        | true =>
          exfalso
          obtain ⟨U, u1, u2⟩ := b2 rfl
          have := s2.short.2 U u1
          omega
      · rw [decide_eq_false (show ¬ (S.length : Int) ≤ 9 by omega)]; rfl
    · intro n i hi
      conv => lhs; unfold f13_21 f13_21b
      have hb := m3 bs[i] (List.getElem_mem hi)
      rw [List.length_map, decide_eq_true (show (i : Int) < (bs.length : Int) by omega), cond_true, ix_strs hi, Option.bind_some, f44_eq (by omega) (by omega) (by omega), Option.bind_some, decide_eq_true (s2.1 _ (List.getElem_mem hi)), if_neg (fun h => h), W_nat (by omega)]; rfl
    · intro n
      conv => lhs; unfold f13_21 f13_21b
      rw [List.length_map, decide_eq_false (by omega), cond_false]
    · omega
end Go.Vc
namespace Go.Vc
set_option linter.unusedVariables false
set_option linter.unnecessarySimpa false
set_option linter.unusedSimpArgs false
set_option linter.unusedSimpArgs false
abbrev tB : Ty := .int .u8
abbrev tBytes : Ty := .slice tB false 1
abbrev tWalls : Ty := .slice tBytes false 1
def u8In (n : Int) : Prop := 0 ≤ n ∧ n ≤ 255
theorem tB_of {ds : List D} (h : tB.has ds) : ∃ n, ds = [u8N n] ∧ u8In n := by
  simp only [tB, Ty.has] at h
  obtain ⟨n, rfl, h⟩ := h
  exact ⟨n, rfl, by simpa [IntKind.min, IntKind.max, IntKind.signed, IntKind.bits, u8In] using h⟩
theorem bytes_of {ds : List D} (h : tBytes.has ds) : ∃ l : List Int, ds = [sl_u8N l] ∧ ∀ x, x ∈ l → u8In x := by
  obtain ⟨l, h1, _, h3⟩ := slice_of (d := u8N) (p := u8In) (fun cs hc => by
    obtain ⟨n, rfl, h⟩ := tB_of hc
    exact ⟨n, rfl, h⟩) h
  exact ⟨l, h1, h3⟩
theorem tB_ofD {x : D} (h : tB.hasD x) : ∃ n, x = u8N n ∧ u8In n := by
  obtain ⟨n, h1, h2⟩ := tB_of (ds := [x]) h
  exact ⟨n, List.singleton_inj.1 h1, h2⟩
theorem walls_ofD {x : D} (h : tWalls.hasD x) : ∃ l : List (List Int), x = sl_sl_u8N l ∧ ∀ w, w ∈ l → ∀ y, y ∈ w → u8In y := by
  obtain ⟨l, h1, _, h3⟩ := slice_of (d := sl_u8N) (p := fun w => ∀ y, y ∈ w → u8In y) (ds := [x]) (fun cs hc => by
    obtain ⟨n, rfl, h⟩ := bytes_of hc
    exact ⟨n, rfl, h⟩) h
  exact ⟨l, List.singleton_inj.1 h1, h3⟩
end Go.Vc

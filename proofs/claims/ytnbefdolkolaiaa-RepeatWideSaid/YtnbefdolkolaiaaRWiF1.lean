/-
  A library for proofs about Go functions by symbolic evaluation, and plain Lean functions that the walked Go functions compute (written by a program of this claim).
-/
import Derived.Test.YtnbefdolkolaiaaW1
import Derived.Test.YtnbefdolkolaiaaW3
import Derived.Test.YtnbefdolkolaiaaW2
import Derived.Test.YtnbefdolkolaiaaVc3
namespace Go.Vc
open Go.Proofs
set_option linter.unusedVariables false
set_option linter.unnecessarySimpa false
set_option linter.unusedSimpArgs false
section
variable {c : Ctx} {p nid : Nat} {a b : Code} {st : St} {K : Ex → St → Prop}
def f71 (N : Nat) (a0 : Int) (a1 : Int) (a2 : Int) : Option (Bool) :=
 bif decide (a1 ≤ a0) then (some (decide (a0 ≤ a2)))
 else (some (false))
def G71 (ds : List D) (d : D) : Prop := ∃ (N : Nat) (a0 : Int) (a1 : Int) (a2 : Int) (r : Bool), ds = [iN a0, iN a1, iN a2] ∧ f71 N a0 a1 a2 = some r ∧ d = bN r
theorem G71.lend {N : Nat} {a0 : Int} {a1 : Int} {a2 : Int} {ρ : Type} {A : Bool → Option ρ} {q : ρ} {ds : List D} {K : D → Prop} (hd : ds = [iN a0, iN a1, iN a2]) (h : ∀ r, A r = some q → K (bN r)) (hF : (f71 N a0 a1 a2).bind A = some q) : ∃ d, (G71 ds d ∧ d.flatB = true) ∧ K d := by
  obtain ⟨r, hr, hA⟩ := bind_some hF
  exact ⟨_, ⟨⟨N, a0, a1, a2, r, hd, hr, rfl⟩, rfl⟩, h r hA⟩
set_option maxRecDepth 20000 in
set_option maxHeartbeats 4000000 in
theorem P71 : PureOK Try.prog 71 G71 := by
  refine pure_of_vc (c := mkCtx tyTree []) rfl tyOK (ctx_nil) [[0]] 3 Try.func71 rfl rfl (by decide) (by kernel_rfl) ?_
  rintro ds d ⟨N, a0, a1, a2, r, rfl, hF, rfl⟩ hok
  clear hok
  refine ⟨rfl, ?_⟩
  show vc _ _ _ _ ⟨[(0, .dat (iN a0)), (1, .dat (iN a1)), (2, .dat (iN a2))], []⟩ _
  unfold f71 at hF
  repeat' (first
    | ((with_reducible first | refine q0 _ _ ?_ | refine q1 _ _ _ _ ?_ | refine q2 _ _ _ ?_); clear Q q0 q1 q2)
    | ((with_reducible first | refine seq_op ?hx (fun Q q0 q1 q2 => ?_)); (case hx => exact rfl); conv => whnf)
    | ((with_reducible first | refine seq_off ?hx ?_ | refine seq_off0 ?hx ?_); (case hx => exact rfl))
    | ((with_reducible refine seq_id ?_); (first | ((first | refine seq_opK rfl ?hy (fun Q q0 q1 q2 => ?_) | refine seq_opK0 rfl ?hy (fun Q q0 q1 q2 => ?_)); (case hy => first | assumption | exact notT (by assumption) | exact rfl); conv => whnf) | ((first | refine seq_offK rfl ?hy ?_ | refine seq_offK0 rfl ?hy ?_); (case hy => first | assumption | exact notF (by assumption) | exact rfl)) | (revert hF; (with_reducible first | refine seq_opF ?hx ?_ ?_ | refine seq_opF0 ?hx ?_ ?_); (case hx => exact rfl); (intro hc hF Q q0 q1 q2; conv => whnf); rotate_left; (intro hc hF); rotate_right) | (revert hF; (with_reducible first | refine seq_opN ?hx ?_ ?_ | refine seq_opN0 ?hx ?_ ?_); (case hx => exact rfl); (intro hc hF); rotate_left; (intro hc hF Q q0 q1 q2; conv => whnf); rotate_right)))
    | ((with_reducible refine seq_nil ?_); (first | ((with_reducible refine hR _ ?_); clear R hR) | ((with_reducible refine hL _ ?_); clear L hL)))
    | ((with_reducible first | refine int_step ?_); conv => whnf)
    | (with_reducible first | refine vc_skip ?_ | refine vc_ret ?_ | refine vc_region (fun R hR => ?_) | refine k_seq_ret ?_)
    | ((with_reducible refine vc_seqN [] ?hx ?_); (case hx => exact rfl))
    | ((refine row_all ?hn ?_); (case hn => first | exact rfl | (simp; done) | (simp; omega)); conv => whnf)
    | ((with_reducible refine le_step ?hn ?_); (case hn => first | exact rfl | assumption | omega); conv => whnf)
    | ((refine ⟨?hx, ?_⟩); (case hx => exact ⟨rfl, Nat.le_of_ble_eq_true rfl, rfl⟩); conv => whnf)
    | ((with_reducible refine ex_step ?_); conv => whnf)
    | ((with_reducible refine both_T ?hx ?_); (case hx => first | exact rfl | assumption | exact notT (by assumption)); conv => whnf)
    | ((with_reducible refine both_F ?hx ?_); (case hx => first | exact rfl | assumption | exact notF (by assumption)); conv => whnf)
    | (revert hF; (with_reducible refine ite_step ?_ ?_) <;> (intro hc hF; conv => whnf))
    | (show retD _ _ _ _ _ _; conv => whnf)
    | ((refine ⟨?hx, trivial⟩); (case hx => (cases hF; exact rfl)))
    | ((refine ⟨?hx, ?_⟩); (case hx => decide); conv => whnf)
    | with_reducible refine k_seq ?_
    | (have hF : (none : Option _) = some _ := hF; cases hF))
end
end Go.Vc
namespace Go.Vc
open Go.Proofs
set_option linter.unusedVariables false
set_option linter.unnecessarySimpa false
set_option linter.unusedSimpArgs false
section
variable {c : Ctx} {p nid : Nat} {a b : Code} {st : St} {K : Ex → St → Prop}
def f54 (N : Nat) (a0 : Int) (a1 : Int) (a2 : Int) : Option (Bool) :=
 (f71 N a0 a1 a2).bind fun x1 =>
 some (x1)
def G54 (ds : List D) (d : D) : Prop := ∃ (N : Nat) (a0 : Int) (a1 : Int) (a2 : Int) (r : Bool), ds = [iN a0, iN a1, iN a2] ∧ f54 N a0 a1 a2 = some r ∧ d = bN r
theorem G54.lend {N : Nat} {a0 : Int} {a1 : Int} {a2 : Int} {ρ : Type} {A : Bool → Option ρ} {q : ρ} {ds : List D} {K : D → Prop} (hd : ds = [iN a0, iN a1, iN a2]) (h : ∀ r, A r = some q → K (bN r)) (hF : (f54 N a0 a1 a2).bind A = some q) : ∃ d, (G54 ds d ∧ d.flatB = true) ∧ K d := by
  obtain ⟨r, hr, hA⟩ := bind_some hF
  exact ⟨_, ⟨⟨N, a0, a1, a2, r, hd, hr, rfl⟩, rfl⟩, h r hA⟩
set_option maxRecDepth 20000 in
set_option maxHeartbeats 4000000 in
theorem P54 : PureOK Try.prog 54 G54 := by
  refine pure_of_vc (c := mkCtx tyTree [(71, true, lendPg [[0], [0], [0]] G71)]) rfl tyOK (ctx_lend (callable Try.func71 rfl rfl) P71 (ctx_nil)) [[0]] 3 Try.func54 rfl rfl (by decide) (by kernel_rfl) ?_
  rintro ds d ⟨N, a0, a1, a2, r, rfl, hF, rfl⟩ hok
  clear hok
  refine ⟨rfl, ?_⟩
  show vc _ _ _ _ ⟨[(0, .dat (iN a0)), (1, .dat (iN a1)), (2, .dat (iN a2))], []⟩ _
  unfold f54 at hF
  repeat' (first
    | ((with_reducible first | refine q0 _ _ ?_ | refine q1 _ _ _ _ ?_ | refine q2 _ _ _ ?_); clear Q q0 q1 q2)
    | ((with_reducible first | refine seq_op ?hx (fun Q q0 q1 q2 => ?_)); (case hx => exact rfl); conv => whnf)
    | ((with_reducible refine seq_nil ?_); (first | ((with_reducible refine hR _ ?_); clear R hR) | ((with_reducible refine hL _ ?_); clear L hL)))
    | ((with_reducible first | refine int_step ?_); conv => whnf)
    | (with_reducible first | refine vc_skip ?_ | refine vc_ret ?_ | refine vc_region (fun R hR => ?_) | refine k_seq_ret ?_)
    | ((with_reducible refine vc_seqN [] ?hx ?_); (case hx => exact rfl))
    | (revert hF; (with_reducible refine G71.lend ?hx ?_); (case hx => exact rfl); intro v hF; conv => whnf)
    | ((refine row_all ?hn ?_); (case hn => first | exact rfl | (simp; done) | (simp; omega)); conv => whnf)
    | ((with_reducible refine le_step ?hn ?_); (case hn => first | exact rfl | assumption | omega); conv => whnf)
    | ((refine ⟨?hx, ?_⟩); (case hx => exact ⟨rfl, Nat.le_of_ble_eq_true rfl, rfl⟩); conv => whnf)
    | ((with_reducible refine ex_step ?_); conv => whnf)
    | ((with_reducible refine both_T ?hx ?_); (case hx => first | exact rfl | assumption | exact notT (by assumption)); conv => whnf)
    | ((with_reducible refine both_F ?hx ?_); (case hx => first | exact rfl | assumption | exact notF (by assumption)); conv => whnf)
    | (revert hF; (with_reducible refine ite_step ?_ ?_) <;> (intro hc hF; conv => whnf))
    | (show retD _ _ _ _ _ _; conv => whnf)
    | ((refine ⟨?hx, trivial⟩); (case hx => (cases hF; exact rfl)))
    | ((refine ⟨?hx, ?_⟩); (case hx => decide); conv => whnf)
    | with_reducible refine k_seq ?_
    | (have hF : (none : Option _) = some _ := hF; cases hF))
end
end Go.Vc
namespace Go.Vc
open Go.Proofs
set_option linter.unusedVariables false
set_option linter.unnecessarySimpa false
set_option linter.unusedSimpArgs false
section
variable {c : Ctx} {p nid : Nat} {a b : Code} {st : St} {K : Ex → St → Prop}
def f26_c29 (v14 : ByteArray) : Option (ByteArray × Int) :=
 some (v14, (0 : Int))
def Lf26_c29 : Lp (ByteArray) Unit (ByteArray × Int) := lp0 ⟨[14], [], [], []⟩ (fun v14 => [.dat (strN v14)]) (fun _ => []) (fun v14 => f26_c29 v14)
theorem Ef26_c29 {v14} : (Lf26_c29).E v14 = f26_c29 v14 := rfl
def f26_23b (r23 : ByteArray → Int → Int → Option (ByteArray × Int)) (a2 : Int) (v8' : List Int) (k0 : ByteArray → Option (ByteArray × Int)) (v14 : ByteArray) (v15 : Int) (v16 : Int) : Option (ByteArray × Int) :=
 bif decide (v16 < a2) then ((ix (v8') v16).bind fun x5 =>
 bif decide (x5 < v16) then ((ix (v8') v16).bind fun x6 =>
 (ix (v8') v16).bind fun x7 =>
 (subS v14 x6 (W (x7 + (1 : Int)))).bind fun x8 =>
 (addS v14 x8).bind fun x9 =>
 r23 x9 v15 (W (v16 + (1 : Int))))
 else ((strOf [Wk .u8 (W ((97 : Int) + v15))]).bind fun x10 =>
 (addS v14 x10).bind fun x11 =>
 r23 x11 (W (v15 + (1 : Int))) (W (v16 + (1 : Int)))))
 else (k0 v14)
def f26_23 (a2 : Int) (v8' : List Int) (k0 : ByteArray → Option (ByteArray × Int)) : Nat → ByteArray → Int → Int → Option (ByteArray × Int)
  | 0, _, _, _ => none
  | n + 1, v14, v15, v16 => f26_23b (f26_23 a2 v8' k0 n) a2 v8' k0 v14 v15 v16
def Lf26_23 (a2 : Int) (v8' : List Int) (k0 : ByteArray → Option (ByteArray × Int)) : Lp (Nat × ByteArray × Int × Int) (Nat) (ByteArray × Int) := ⟨⟨[2, 8, 14, 15, 16], [90008], [], []⟩, fun (_, v14, v15, v16) => [.dat (iN a2), .rs 90008 (List.length (v8')), .dat (strN v14), .dat (iN v15), .dat (iN v16)], fun (_, _, _, _) => [.row 3 1 (List.map iN (v8'))], fun (n, v14, v15, v16) => f26_23 a2 v8' k0 n v14 v15 v16, fun (_, v14, v15, v16) m0 => [.dat (iN a2), .rs 90008 m0, .dat (strN v14), .dat (iN v15), .dat (iN v16)], fun (_, _, _, _) _ => [.row 3 1 (List.map iN (v8'))], fun (_, _, _, _) => List.length (v8'), fun _ => rfl, fun _ => rfl⟩
theorem Ef26_23 {a2 v8' k0 n v14 v15 v16} : (Lf26_23 a2 v8' k0).E (n, v14, v15, v16) = f26_23 a2 v8' k0 n v14 v15 v16 := rfl
def f26_c20 (a2 : Int) (N : Nat) (v8' : List Int) : Option (ByteArray × Int) :=
 joinK f26_c29 fun k0 =>
 f26_23 a2 v8' k0 N emptyS (0 : Int) (0 : Int)
def Lf26_c20 (a2 : Int) (N : Nat) : Lp ((List Int)) (Nat) (ByteArray × Int) := ⟨⟨[2, 8], [90008], [(.slot 8, 90008, 3, 1)], []⟩, fun v8' => [.dat (iN a2), .rs 90008 (List.length (v8'))], fun v8' => [.row 3 1 (List.map iN (v8'))], fun v8' => f26_c20 a2 N v8', fun _ m0 => [.dat (iN a2), .rs 90008 m0], fun v8' _ => [.row 3 1 (List.map iN (v8'))], fun v8' => List.length (v8'), fun _ => rfl, fun _ => rfl⟩
theorem Ef26_c20 {a2 N v8'} : (Lf26_c20 a2 N).E v8' = f26_c20 a2 N v8' := rfl
def f26_c10 (a0 : Int) (a1 : Int) (a2 : Int) (v10 : Int) (r9 : (List Int) → Int → Option (ByteArray × Int)) (v8'' : List Int) : Option (ByteArray × Int) :=
 r9 (v8'') (W (v10 + (1 : Int)))
def Lf26_c10 (a0 : Int) (a1 : Int) (a2 : Int) (v10 : Int) (r9 : (List Int) → Int → Option (ByteArray × Int)) : Lp ((List Int)) (Nat) (ByteArray × Int) := ⟨⟨[0, 1, 2, 8, 10], [90008], [(.slot 8, 90008, 3, 1)], []⟩, fun v8'' => [.dat (iN a0), .dat (iN a1), .dat (iN a2), .rs 90008 (List.length (v8'')), .dat (iN v10)], fun v8'' => [.row 3 1 (List.map iN (v8''))], fun v8'' => f26_c10 a0 a1 a2 v10 r9 v8'', fun _ m0 => [.dat (iN a0), .dat (iN a1), .dat (iN a2), .rs 90008 m0, .dat (iN v10)], fun v8'' _ => [.row 3 1 (List.map iN (v8''))], fun v8'' => List.length (v8''), fun _ => rfl, fun _ => rfl⟩
theorem Ef26_c10 {a0 a1 a2 v10 r9 v8''} : (Lf26_c10 a0 a1 a2 v10 r9).E v8'' = f26_c10 a0 a1 a2 v10 r9 v8'' := rfl
def f26_c17 (a0 : Int) (a1 : Int) (a2 : Int) (v10 : Int) (v11 : Int) (r12 : (List Int) → Int → Option (ByteArray × Int)) (v8''' : List Int) : Option (ByteArray × Int) :=
 bif decide ((W (v11 + a1)) < a2) then ((ix (v8''') v11).bind fun x12 =>
 (ix (v8''') (W (v11 + a1))).bind fun x13 =>
 (ix (v8''') v11).bind fun x14 =>
 (setx (v8''') v11 (min x12 x13)).bind fun x15 =>
 (ix x15 (W (v11 + a1))).bind fun x16 =>
 (setx x15 (W (v11 + a1)) (min x12 x13)).bind fun x17 =>
 r12 x17 (W (v11 + (1 : Int))))
 else (r12 (v8''') (W (v11 + (1 : Int))))
def Lf26_c17 (a0 : Int) (a1 : Int) (a2 : Int) (v10 : Int) (v11 : Int) (r12 : (List Int) → Int → Option (ByteArray × Int)) : Lp ((List Int)) (Nat) (ByteArray × Int) := ⟨⟨[0, 1, 2, 8, 10, 11], [90008], [(.slot 8, 90008, 3, 1)], []⟩, fun v8''' => [.dat (iN a0), .dat (iN a1), .dat (iN a2), .rs 90008 (List.length (v8''')), .dat (iN v10), .dat (iN v11)], fun v8''' => [.row 3 1 (List.map iN (v8'''))], fun v8''' => f26_c17 a0 a1 a2 v10 v11 r12 v8''', fun _ m0 => [.dat (iN a0), .dat (iN a1), .dat (iN a2), .rs 90008 m0, .dat (iN v10), .dat (iN v11)], fun v8''' _ => [.row 3 1 (List.map iN (v8'''))], fun v8''' => List.length (v8'''), fun _ => rfl, fun _ => rfl⟩
theorem Ef26_c17 {a0 a1 a2 v10 v11 r12 v8'''} : (Lf26_c17 a0 a1 a2 v10 v11 r12).E v8''' = f26_c17 a0 a1 a2 v10 v11 r12 v8''' := rfl
def f26_12b (r12 : (List Int) → Int → Option (ByteArray × Int)) (a0 : Int) (a1 : Int) (a2 : Int) (v10 : Int) (k2 : (List Int) → Option (ByteArray × Int)) (v8'' : List Int) (v11 : Int) : Option (ByteArray × Int) :=
 bif decide (v11 < a2) then (joinK (f26_c17 a0 a1 a2 v10 v11 r12) fun k3 =>
 bif decide ((W (v11 + a0)) < a2) then ((ix (v8'') v11).bind fun x18 =>
 (ix (v8'') (W (v11 + a0))).bind fun x19 =>
 (ix (v8'') v11).bind fun x20 =>
 (setx (v8'') v11 (min x18 x19)).bind fun x21 =>
 (ix x21 (W (v11 + a0))).bind fun x22 =>
 (setx x21 (W (v11 + a0)) (min x18 x19)).bind fun x23 =>
 k3 x23)
 else (k3 (v8'')))
 else (k2 (v8''))
def f26_12 (a0 : Int) (a1 : Int) (a2 : Int) (v10 : Int) (k2 : (List Int) → Option (ByteArray × Int)) : Nat → (List Int) → Int → Option (ByteArray × Int)
  | 0, _, _ => none
  | n + 1, v8'', v11 => f26_12b (f26_12 a0 a1 a2 v10 k2 n) a0 a1 a2 v10 k2 v8'' v11
def Lf26_12 (a0 : Int) (a1 : Int) (a2 : Int) (v10 : Int) (k2 : (List Int) → Option (ByteArray × Int)) : Lp (Nat × (List Int) × Int) (Nat) (ByteArray × Int) := ⟨⟨[0, 1, 2, 8, 10, 11], [90008], [(.slot 8, 90008, 3, 1)], []⟩, fun (_, v8'', v11) => [.dat (iN a0), .dat (iN a1), .dat (iN a2), .rs 90008 (List.length (v8'')), .dat (iN v10), .dat (iN v11)], fun (_, v8'', _) => [.row 3 1 (List.map iN (v8''))], fun (n, v8'', v11) => f26_12 a0 a1 a2 v10 k2 n v8'' v11, fun (_, _, v11) m0 => [.dat (iN a0), .dat (iN a1), .dat (iN a2), .rs 90008 m0, .dat (iN v10), .dat (iN v11)], fun (_, v8'', _) _ => [.row 3 1 (List.map iN (v8''))], fun (_, v8'', _) => List.length (v8''), fun _ => rfl, fun _ => rfl⟩
theorem Ef26_12 {a0 a1 a2 v10 k2 n v8'' v11} : (Lf26_12 a0 a1 a2 v10 k2).E (n, v8'', v11) = f26_12 a0 a1 a2 v10 k2 n v8'' v11 := rfl
def f26_9b (r9 : (List Int) → Int → Option (ByteArray × Int)) (a0 : Int) (a1 : Int) (a2 : Int) (N : Nat) (k1 : (List Int) → Option (ByteArray × Int)) (v8' : List Int) (v10 : Int) : Option (ByteArray × Int) :=
 bif decide (v10 < a2) then (joinK (f26_c10 a0 a1 a2 v10 r9) fun k2 =>
 f26_12 a0 a1 a2 v10 k2 N (v8') (0 : Int))
 else (k1 (v8'))
def f26_9 (a0 : Int) (a1 : Int) (a2 : Int) (N : Nat) (k1 : (List Int) → Option (ByteArray × Int)) : Nat → (List Int) → Int → Option (ByteArray × Int)
  | 0, _, _ => none
  | n + 1, v8', v10 => f26_9b (f26_9 a0 a1 a2 N k1 n) a0 a1 a2 N k1 v8' v10
def Lf26_9 (a0 : Int) (a1 : Int) (a2 : Int) (N : Nat) (k1 : (List Int) → Option (ByteArray × Int)) : Lp (Nat × (List Int) × Int) (Nat) (ByteArray × Int) := ⟨⟨[0, 1, 2, 8, 10], [90008], [(.slot 8, 90008, 3, 1)], []⟩, fun (_, v8', v10) => [.dat (iN a0), .dat (iN a1), .dat (iN a2), .rs 90008 (List.length (v8')), .dat (iN v10)], fun (_, v8', _) => [.row 3 1 (List.map iN (v8'))], fun (n, v8', v10) => f26_9 a0 a1 a2 N k1 n v8' v10, fun (_, _, v10) m0 => [.dat (iN a0), .dat (iN a1), .dat (iN a2), .rs 90008 m0, .dat (iN v10)], fun (_, v8', _) _ => [.row 3 1 (List.map iN (v8'))], fun (_, v8', _) => List.length (v8'), fun _ => rfl, fun _ => rfl⟩
theorem Ef26_9 {a0 a1 a2 N k1 n v8' v10} : (Lf26_9 a0 a1 a2 N k1).E (n, v8', v10) = f26_9 a0 a1 a2 N k1 n v8' v10 := rfl
def f26_c8 (a0 : Int) (a1 : Int) (a2 : Int) (N : Nat) (v8 : List Int) : Option (ByteArray × Int) :=
 joinK (f26_c20 a2 N) fun k1 =>
 f26_9 a0 a1 a2 N k1 N v8 (0 : Int)
def Lf26_c8 (a0 : Int) (a1 : Int) (a2 : Int) (N : Nat) : Lp ((List Int)) (Nat) (ByteArray × Int) := ⟨⟨[0, 1, 2, 8], [90008], [(.slot 8, 90008, 3, 1)], []⟩, fun v8 => [.dat (iN a0), .dat (iN a1), .dat (iN a2), .rs 90008 (List.length v8)], fun v8 => [.row 3 1 (List.map iN v8)], fun v8 => f26_c8 a0 a1 a2 N v8, fun _ m0 => [.dat (iN a0), .dat (iN a1), .dat (iN a2), .rs 90008 m0], fun v8 _ => [.row 3 1 (List.map iN v8)], fun v8 => List.length v8, fun _ => rfl, fun _ => rfl⟩
theorem Ef26_c8 {a0 a1 a2 N v8} : (Lf26_c8 a0 a1 a2 N).E v8 = f26_c8 a0 a1 a2 N v8 := rfl
def f26_5b (r5 : (List Int) → Int → Option (ByteArray × Int)) (a0 : Int) (a1 : Int) (a2 : Int) (k4 : (List Int) → Option (ByteArray × Int)) (v8 : List Int) (v9 : Int) : Option (ByteArray × Int) :=
 bif decide (v9 < a2) then ((ix v8 v9).bind fun x24 =>
 (setx v8 v9 v9).bind fun x25 =>
 r5 x25 (W (v9 + (1 : Int))))
 else (k4 v8)
def f26_5 (a0 : Int) (a1 : Int) (a2 : Int) (k4 : (List Int) → Option (ByteArray × Int)) : Nat → (List Int) → Int → Option (ByteArray × Int)
  | 0, _, _ => none
  | n + 1, v8, v9 => f26_5b (f26_5 a0 a1 a2 k4 n) a0 a1 a2 k4 v8 v9
def Lf26_5 (a0 : Int) (a1 : Int) (a2 : Int) (k4 : (List Int) → Option (ByteArray × Int)) : Lp (Nat × (List Int) × Int) (Nat) (ByteArray × Int) := ⟨⟨[0, 1, 2, 8, 9], [90008], [(.slot 8, 90008, 3, 1)], []⟩, fun (_, v8, v9) => [.dat (iN a0), .dat (iN a1), .dat (iN a2), .rs 90008 (List.length v8), .dat (iN v9)], fun (_, v8, _) => [.row 3 1 (List.map iN v8)], fun (n, v8, v9) => f26_5 a0 a1 a2 k4 n v8 v9, fun (_, _, v9) m0 => [.dat (iN a0), .dat (iN a1), .dat (iN a2), .rs 90008 m0, .dat (iN v9)], fun (_, v8, _) _ => [.row 3 1 (List.map iN v8)], fun (_, v8, _) => List.length v8, fun _ => rfl, fun _ => rfl⟩
theorem Ef26_5 {a0 a1 a2 k4 n v8 v9} : (Lf26_5 a0 a1 a2 k4).E (n, v8, v9) = f26_5 a0 a1 a2 k4 n v8 v9 := rfl
def f26 (N : Nat) (a0 : Int) (a1 : Int) (a2 : Int) : Option (ByteArray × Int) :=
 (f54 N a2 (1 : Int) (24 : Int)).bind fun x1 =>
 bif !x1 then (some (emptyS, (3 : Int)))
 else ((f54 N a0 (1 : Int) a2).bind fun x2 =>
 bif !x2 then (some (emptyS, (3 : Int)))
 else ((f54 N a1 (1 : Int) a2).bind fun x3 =>
 bif !x3 then (some (emptyS, (3 : Int)))
 else ((mkS 8 (0 : Int) a2 a2).bind fun x4 =>
 joinK (f26_c8 a0 a1 a2 N) fun k4 =>
 f26_5 a0 a1 a2 k4 N x4 (0 : Int))))
def G26 (ds : List D) (d : D) : Prop := ∃ (N : Nat) (a0 : Int) (a1 : Int) (a2 : Int) (r : ByteArray × Int), ds = [iN a0, iN a1, iN a2] ∧ f26 N a0 a1 a2 = some r ∧ d = .tup [strN r.1, iN r.2]
theorem G26.lend {N : Nat} {a0 : Int} {a1 : Int} {a2 : Int} {ρ : Type} {A : (ByteArray × Int) → Option ρ} {q : ρ} {ds : List D} {K : D → Prop} (hd : ds = [iN a0, iN a1, iN a2]) (h : ∀ r, A r = some q → K (.tup [strN r.1, iN r.2])) (hF : (f26 N a0 a1 a2).bind A = some q) : ∃ d, (G26 ds d ∧ d.flatB = true) ∧ K d := by
  obtain ⟨r, hr, hA⟩ := bind_some hF
  exact ⟨_, ⟨⟨N, a0, a1, a2, r, hd, hr, rfl⟩, rfl⟩, h r hA⟩
set_option maxRecDepth 20000 in
set_option maxHeartbeats 4000000 in
theorem P26 : PureOK Try.prog 26 G26 := by
  refine pure_of_vc (c := mkCtx tyTree [(54, true, lendPg [[0], [0], [0]] G54)]) rfl tyOK (ctx_lend (callable Try.func54 rfl rfl) P54 (ctx_nil)) [[0], [0]] 3 Try.func26 rfl rfl (by decide) (by kernel_rfl) ?_
  rintro ds d ⟨N, a0, a1, a2, r, rfl, hF, rfl⟩ hok
  clear hok
  refine ⟨rfl, ?_⟩
  show vc _ _ _ _ ⟨[(0, .dat (iN a0)), (1, .dat (iN a1)), (2, .dat (iN a2))], []⟩ _
  unfold f26 at hF
  repeat' (first
    | ((with_reducible first | refine q0 _ _ ?_ | refine q1 _ _ _ _ ?_ | refine q2 _ _ _ ?_); clear Q q0 q1 q2)
    | ((with_reducible first | refine seq_op ?hx (fun Q q0 q1 q2 => ?_) | refine draw_op ?hx (fun Q q0 q1 q2 => ?_) | refine seq_op0 ?hx (fun Q q0 q1 q2 => ?_) | refine draw_op0 ?hx (fun Q q0 q1 q2 => ?_)); (case hx => exact rfl); conv => whnf)
    | ((with_reducible first | refine seq_off ?hx ?_ | refine seq_off0 ?hx ?_ | refine draw_off ?hx ?_ | refine draw_off0 ?hx ?_ | refine k_blk_out ?hx ?_ | refine vc_condT ?hx ?_); (case hx => exact rfl))
    | ((with_reducible refine seq_id ?_); (first | ((first | refine seq_opK rfl ?hy (fun Q q0 q1 q2 => ?_) | refine seq_opK0 rfl ?hy (fun Q q0 q1 q2 => ?_)); (case hy => first | assumption | exact notT (by assumption) | exact rfl); conv => whnf) | ((first | refine seq_offK rfl ?hy ?_ | refine seq_offK0 rfl ?hy ?_); (case hy => first | assumption | exact notF (by assumption) | exact rfl)) | (revert hF; (with_reducible first | refine seq_opF ?hx ?_ ?_ | refine seq_opF0 ?hx ?_ ?_); (case hx => exact rfl); (intro hc hF Q q0 q1 q2; conv => whnf); rotate_left; (intro hc hF); rotate_right) | (revert hF; (with_reducible first | refine seq_opN ?hx ?_ ?_ | refine seq_opN0 ?hx ?_ ?_); (case hx => exact rfl); (intro hc hF); rotate_left; (intro hc hF Q q0 q1 q2; conv => whnf); rotate_right)))
    | ((with_reducible refine cond_id ?_); (first | ((refine condKT rfl ?hy ?_); (case hy => first | assumption | exact notT (by assumption) | exact rfl)) | ((refine condKF rfl ?hy ?_); (case hy => first | assumption | exact notF (by assumption) | exact rfl)) | (revert hF; (with_reducible refine condF ?hx ?_ ?_); (case hx => exact rfl); all_goals (intro hc hF))))
    | ((with_reducible refine seq_nil ?_); (first | ((with_reducible refine hR _ ?_); clear R hR) | ((with_reducible refine hL _ ?_); clear L hL)))
    | ((with_reducible refine draw_nil ?_); (with_reducible refine hR _ _ ?hx ?_); (case hx => kernel_rfl); (first | clear R hR | clear hR))
    | ((with_reducible first | refine int_step ?_ | refine len_step ?_ | refine idx2 (by assumption) ?_ | refine idx3 (by assumption) ?_); conv => whnf)
    | (with_reducible first | refine vc_block ?_ | refine vc_skip ?_ | refine vc_ret ?_ | refine vc_exit ?_ | refine vc_region (fun R hR => ?_) | refine k_seq_ret ?_ | refine k_seq_exit ?_ | refine k_blk ?_ | refine k_blk_ret ?_ | refine k_blk_here ?_ | refine k_loop_ret ?_ | refine k_loop_exit ?_)
    | ((with_reducible refine vc_seqN [29, 20, 10, 17, 8] ?hx ?_); (case hx => exact rfl))
    | ((with_reducible refine vc_draw ?hx (fun R hR => ?_)); (case hx => exact rfl))
    | (revert hF; (refine Lp.cut0 Lf26_c29 f26_c29 29 rfl rfl ?_ ?_); (intro hF); rotate_left; (rintro v14 hF; dsimp only [Lf26_c29] at hF; unfold f26_c29 at hF); rotate_right)
    | exact Lp.head Ef26_c29 hF () ⟨_, rfl, rfl, rfl, rfl⟩ rfl
    | (revert hF; (refine Lp.loop Ef26_23 _ rfl ⟨_, rfl, rfl, rfl, rfl⟩ (by first | exact rfl | ((try dsimp only [Lf26_23]); first | assumption | omega | (simp only [List.length_set]; done))) (fun _ => rfl) ?_); rintro n ⟨v14, v15, v16⟩ hF; dsimp only [Lf26_23, f26_23] at hF; unfold f26_23b at hF)
    | exact Lp.back Ef26_23 hF _ ⟨_, rfl, rfl, rfl, rfl⟩ (by first | exact rfl | ((try dsimp only [Lf26_23]); first | assumption | omega | (simp only [List.length_set]; done)))
    | (revert hF; (refine Lp.cut2 Lf26_c20 f26_c20 20 rfl rfl ?_ ?_); (intro hF); rotate_left; (rintro v8' hF; dsimp only [Lf26_c20] at hF; unfold f26_c20 at hF); rotate_right)
    | exact Lp.head Ef26_c20 hF _ ⟨_, rfl, rfl, rfl, rfl⟩ (by first | exact rfl | ((try dsimp only [Lf26_c20]); first | assumption | omega | (simp only [List.length_set]; done)))
    | (revert hF; (refine Lp.cut5 Lf26_c10 f26_c10 10 rfl rfl ?_ ?_); (intro hF); rotate_left; (rintro v8'' hF; dsimp only [Lf26_c10] at hF; unfold f26_c10 at hF); rotate_right)
    | exact Lp.head Ef26_c10 hF _ ⟨_, rfl, rfl, rfl, rfl⟩ (by first | exact rfl | ((try dsimp only [Lf26_c10]); first | assumption | omega | (simp only [List.length_set]; done)))
    | (revert hF; (refine Lp.cut6 Lf26_c17 f26_c17 17 rfl rfl ?_ ?_); (intro hF); rotate_left; (rintro v8''' hF; dsimp only [Lf26_c17] at hF; unfold f26_c17 at hF); rotate_right)
    | exact Lp.head Ef26_c17 hF _ ⟨_, rfl, rfl, rfl, rfl⟩ (by first | exact rfl | ((try dsimp only [Lf26_c17]); first | assumption | omega | (simp only [List.length_set]; done)))
    | (revert hF; (refine Lp.loop Ef26_12 _ rfl ⟨_, rfl, rfl, rfl, rfl⟩ (by first | exact rfl | ((try dsimp only [Lf26_12]); first | assumption | omega | (simp only [List.length_set]; done))) (fun _ => rfl) ?_); rintro n ⟨v8'', v11⟩ hF; dsimp only [Lf26_12, f26_12] at hF; unfold f26_12b at hF)
    | exact Lp.back Ef26_12 hF _ ⟨_, rfl, rfl, rfl, rfl⟩ (by first | exact rfl | ((try dsimp only [Lf26_12]); first | assumption | omega | (simp only [List.length_set]; done)))
    | (revert hF; (refine Lp.loop Ef26_9 _ rfl ⟨_, rfl, rfl, rfl, rfl⟩ (by first | exact rfl | ((try dsimp only [Lf26_9]); first | assumption | omega | (simp only [List.length_set]; done))) (fun _ => rfl) ?_); rintro n ⟨v8', v10⟩ hF; dsimp only [Lf26_9, f26_9] at hF; unfold f26_9b at hF)
    | exact Lp.back Ef26_9 hF _ ⟨_, rfl, rfl, rfl, rfl⟩ (by first | exact rfl | ((try dsimp only [Lf26_9]); first | assumption | omega | (simp only [List.length_set]; done)))
    | (revert hF; (refine Lp.cut4 Lf26_c8 f26_c8 8 rfl rfl ?_ ?_); (intro hF); rotate_left; (rintro v8 hF; dsimp only [Lf26_c8] at hF; unfold f26_c8 at hF); rotate_right)
    | exact Lp.head Ef26_c8 hF _ ⟨_, rfl, rfl, rfl, rfl⟩ (by first | exact rfl | ((try dsimp only [Lf26_c8]); first | assumption | omega | (simp only [List.length_set]; done)))
    | (revert hF; (refine Lp.loop Ef26_5 _ rfl ⟨_, rfl, rfl, rfl, rfl⟩ (by first | exact rfl | ((try dsimp only [Lf26_5]); first | assumption | omega | (simp only [List.length_set]; done))) (fun _ => rfl) ?_); rintro n ⟨v8, v9⟩ hF; dsimp only [Lf26_5, f26_5] at hF; unfold f26_5b at hF)
    | exact Lp.back Ef26_5 hF _ ⟨_, rfl, rfl, rfl, rfl⟩ (by first | exact rfl | ((try dsimp only [Lf26_5]); first | assumption | omega | (simp only [List.length_set]; done)))
    | (revert hF; (with_reducible refine G54.lend ?hx ?_); (case hx => exact rfl); intro v hF; conv => whnf)
    | (revert hF; (refine mkS_row (d := iN) ?hz ?_); (case hz => exact rfl); intro x hF; conv => whnf)
    | (revert hF; (refine subS_step ?_); intro x hF; conv => whnf)
    | (revert hF; (refine addS_step ?_); intro x hF; conv => whnf)
    | (revert hF; (first | refine strOf_step (fun _ h => h) ?_ | refine strOf_step2 ?_); intro x hF; conv => whnf)
    | (revert hF; (with_reducible refine idx1 ?hn ?_); (case hn => first | exact rfl | exact (List.length_map _) | assumption | omega | simp); intro x hx hF; conv => whnf)
    | ((refine row_all ?hn ?_); (case hn => first | exact rfl | (simp; done) | (simp; omega)); conv => whnf)
    | ((with_reducible refine le_step ?hn ?_); (case hn => first | exact rfl | assumption | omega); conv => whnf)
    | ((with_reducible have hG := setx_fact hF); clear hF; (refine setx_step hG ?hs (fun q hl hF => ?_)); (case hs => exact rfl); clear hG; conv => whnf)
    | ((refine ⟨?hx, ?_⟩); (case hx => exact ⟨rfl, Nat.le_of_ble_eq_true rfl, rfl⟩); conv => whnf)
    | ((with_reducible refine ex_step ?_); conv => whnf)
    | ((with_reducible refine both_T ?hx ?_); (case hx => first | exact rfl | assumption | exact notT (by assumption)); conv => whnf)
    | ((with_reducible refine both_F ?hx ?_); (case hx => first | exact rfl | assumption | exact notF (by assumption)); conv => whnf)
    | (revert hF; (with_reducible refine ite_step ?_ ?_) <;> (intro hc hF; conv => whnf))
    | ((with_reducible refine vc_condF ?hx ?_); (case hx => exact rfl))
    | (show retD _ _ _ _ _ _; conv => whnf)
    | ((refine ⟨?hx, trivial⟩); (case hx => (cases hF; exact rfl)))
    | ((refine ⟨?hx, ?_⟩); (case hx => decide); conv => whnf)
    | with_reducible refine k_seq ?_
    | (have hF : (none : Option _) = some _ := hF; cases hF))
end
end Go.Vc
namespace Go.Vc
open Go.Proofs
set_option linter.unusedVariables false
set_option linter.unnecessarySimpa false
set_option linter.unusedSimpArgs false
section
variable {c : Ctx} {p nid : Nat} {a b : Code} {st : St} {K : Ex → St → Prop}
def f24_c10 : Option (Int) :=
 some ((0 : Int))
def Lf24_c10 : Lp (Unit) Unit (Int) := lp0 ⟨[], [], [], []⟩ (fun _ => []) (fun _ => []) (fun _ => f24_c10)
theorem Ef24_c10 : (Lf24_c10).E () = f24_c10 := rfl
def f24_6b (r6 : Int → Option (Int)) (a0 : ByteArray) (k0 : Option (Int)) (i3 : Int) : Option (Int) :=
 bif decide (i3 < (ByteArray.size a0 : Int)) then ((idxS a0 i3).bind fun x1 =>
 bif decide (x1 < (97 : Int)) then (some ((9 : Int)))
 else ((idxS a0 i3).bind fun x2 =>
 bif decide ((122 : Int) < x2) then (some ((9 : Int)))
 else (r6 (W (i3 + (1 : Int))))))
 else k0
def f24_6 (a0 : ByteArray) (k0 : Option (Int)) : Nat → Int → Option (Int)
  | 0, _ => none
  | n + 1, i3 => f24_6b (f24_6 a0 k0 n) a0 k0 i3
def Lf24_6 (a0 : ByteArray) (k0 : Option (Int)) : Lp (Nat × Int) Unit (Int) := lp0 ⟨[0, 3], [], [], []⟩ (fun (_, i3) => [.dat (strN a0), .dat (iN i3)]) (fun (_, _) => []) (fun (n, i3) => f24_6 a0 k0 n i3)
theorem Ef24_6 {a0 k0 n i3} : (Lf24_6 a0 k0).E (n, i3) = f24_6 a0 k0 n i3 := rfl
def f24 (N : Nat) (a0 : ByteArray) : Option (Int) :=
 bif decide (a0 = emptyS) then (some ((1 : Int)))
 else (bif decide ((24 : Int) < (ByteArray.size a0 : Int)) then (some ((19 : Int)))
 else (joinK f24_c10 fun k0 =>
 f24_6 a0 k0 N (0 : Int)))
def G24 (ds : List D) (d : D) : Prop := ∃ (N : Nat) (a0 : ByteArray) (r : Int), ds = [strN a0] ∧ f24 N a0 = some r ∧ d = iN r
theorem G24.lend {N : Nat} {a0 : ByteArray} {ρ : Type} {A : Int → Option ρ} {q : ρ} {ds : List D} {K : D → Prop} (hd : ds = [strN a0]) (h : ∀ r, A r = some q → K (iN r)) (hF : (f24 N a0).bind A = some q) : ∃ d, (G24 ds d ∧ d.flatB = true) ∧ K d := by
  obtain ⟨r, hr, hA⟩ := bind_some hF
  exact ⟨_, ⟨⟨N, a0, r, hd, hr, rfl⟩, rfl⟩, h r hA⟩
set_option maxRecDepth 20000 in
set_option maxHeartbeats 4000000 in
theorem P24 : PureOK Try.prog 24 G24 := by
  refine pure_of_vc (c := mkCtx tyTree []) rfl tyOK (ctx_nil) [[0]] 1 Try.func24 rfl rfl (by decide) (by kernel_rfl) ?_
  rintro ds d ⟨N, a0, r, rfl, hF, rfl⟩ hok
  clear hok
  refine ⟨rfl, ?_⟩
  show vc _ _ _ _ ⟨[(0, .dat (strN a0))], []⟩ _
  unfold f24 at hF
  repeat' (first
    | ((with_reducible first | refine q0 _ _ ?_ | refine q1 _ _ _ _ ?_ | refine q2 _ _ _ ?_); clear Q q0 q1 q2)
    | ((with_reducible first | refine seq_op ?hx (fun Q q0 q1 q2 => ?_)); (case hx => exact rfl); conv => whnf)
    | ((with_reducible first | refine seq_off ?hx ?_ | refine seq_off0 ?hx ?_ | refine k_blk_out ?hx ?_ | refine vc_condT ?hx ?_); (case hx => exact rfl))
    | ((with_reducible refine seq_id ?_); (first | ((first | refine seq_opK rfl ?hy (fun Q q0 q1 q2 => ?_) | refine seq_opK0 rfl ?hy (fun Q q0 q1 q2 => ?_)); (case hy => first | assumption | exact notT (by assumption) | exact rfl); conv => whnf) | ((first | refine seq_offK rfl ?hy ?_ | refine seq_offK0 rfl ?hy ?_); (case hy => first | assumption | exact notF (by assumption) | exact rfl)) | (revert hF; (with_reducible first | refine seq_opF ?hx ?_ ?_ | refine seq_opF0 ?hx ?_ ?_); (case hx => exact rfl); (intro hc hF Q q0 q1 q2; conv => whnf); rotate_left; (intro hc hF); rotate_right) | (revert hF; (with_reducible first | refine seq_opN ?hx ?_ ?_ | refine seq_opN0 ?hx ?_ ?_); (case hx => exact rfl); (intro hc hF); rotate_left; (intro hc hF Q q0 q1 q2; conv => whnf); rotate_right)))
    | ((with_reducible refine cond_id ?_); (first | ((refine condKT rfl ?hy ?_); (case hy => first | assumption | exact notT (by assumption) | exact rfl)) | ((refine condKF rfl ?hy ?_); (case hy => first | assumption | exact notF (by assumption) | exact rfl)) | (revert hF; (with_reducible refine condF ?hx ?_ ?_); (case hx => exact rfl); all_goals (intro hc hF))))
    | ((with_reducible refine seq_nil ?_); (first | ((with_reducible refine hR _ ?_); clear R hR) | ((with_reducible refine hL _ ?_); clear L hL)))
    | ((with_reducible first | refine int_step ?_); conv => whnf)
    | (with_reducible first | refine vc_block ?_ | refine vc_skip ?_ | refine vc_ret ?_ | refine vc_exit ?_ | refine vc_region (fun R hR => ?_) | refine k_seq_ret ?_ | refine k_seq_exit ?_ | refine k_blk ?_ | refine k_blk_ret ?_ | refine k_blk_here ?_ | refine k_loop_ret ?_ | refine k_loop_exit ?_)
    | ((with_reducible refine vc_seqN [10] ?hx ?_); (case hx => exact rfl))
    | (revert hF; (refine Lp.cut0 Lf24_c10 f24_c10 10 rfl rfl ?_ ?_); (intro hF); rotate_left; (rintro _ hF; dsimp only [Lf24_c10] at hF; unfold f24_c10 at hF); rotate_right)
    | exact Lp.head Ef24_c10 hF () ⟨_, rfl, rfl, rfl, rfl⟩ rfl
    | (revert hF; (refine Lp.loop Ef24_6 () rfl ⟨_, rfl, rfl, rfl, rfl⟩ rfl (fun _ => rfl) ?_); rintro n i3 hF; dsimp only [Lf24_6, f24_6] at hF; unfold f24_6b at hF)
    | exact Lp.back Ef24_6 hF () ⟨_, rfl, rfl, rfl, rfl⟩ rfl
    | (revert hF; (refine idxS_step ?_); intro x hF; conv => whnf)
    | ((refine row_all ?hn ?_); (case hn => first | exact rfl | (simp; done) | (simp; omega)); conv => whnf)
    | ((with_reducible refine le_step ?hn ?_); (case hn => first | exact rfl | assumption | omega); conv => whnf)
    | ((refine ⟨?hx, ?_⟩); (case hx => exact ⟨rfl, Nat.le_of_ble_eq_true rfl, rfl⟩); conv => whnf)
    | ((with_reducible refine ex_step ?_); conv => whnf)
    | ((with_reducible refine both_T ?hx ?_); (case hx => first | exact rfl | assumption | exact notT (by assumption)); conv => whnf)
    | ((with_reducible refine both_F ?hx ?_); (case hx => first | exact rfl | assumption | exact notF (by assumption)); conv => whnf)
    | (revert hF; (with_reducible refine ite_step ?_ ?_) <;> (intro hc hF; conv => whnf))
    | ((with_reducible refine vc_condF ?hx ?_); (case hx => exact rfl))
    | (show retD _ _ _ _ _ _; conv => whnf)
    | ((refine ⟨?hx, trivial⟩); (case hx => (cases hF; exact rfl)))
    | ((refine ⟨?hx, ?_⟩); (case hx => decide); conv => whnf)
    | with_reducible refine k_seq ?_
    | (have hF : (none : Option _) = some _ := hF; cases hF))
end
end Go.Vc
namespace Go.Vc
open Go.Proofs
set_option linter.unusedVariables false
set_option linter.unnecessarySimpa false
set_option linter.unusedSimpArgs false
section
variable {c : Ctx} {p nid : Nat} {a b : Code} {st : St} {K : Ex → St → Prop}
def f50_c6 : Option (Bool) :=
 some (true)
def Lf50_c6 : Lp (Unit) Unit (Bool) := lp0 ⟨[], [], [], []⟩ (fun _ => []) (fun _ => []) (fun _ => f50_c6)
theorem Ef50_c6 : (Lf50_c6).E () = f50_c6 := rfl
def f50_2b (r2 : Int → Option (Bool)) (a0 : ByteArray) (a1 : Int) (k0 : Option (Bool)) (i5 : Int) : Option (Bool) :=
 bif decide ((W (i5 + a1)) < (ByteArray.size a0 : Int)) then ((idxS a0 i5).bind fun x1 =>
 (idxS a0 (W (i5 + a1))).bind fun x2 =>
 bif decide (¬ x1 = x2) then (some (false))
 else (r2 (W (i5 + (1 : Int)))))
 else k0
def f50_2 (a0 : ByteArray) (a1 : Int) (k0 : Option (Bool)) : Nat → Int → Option (Bool)
  | 0, _ => none
  | n + 1, i5 => f50_2b (f50_2 a0 a1 k0 n) a0 a1 k0 i5
def Lf50_2 (a0 : ByteArray) (a1 : Int) (k0 : Option (Bool)) : Lp (Nat × Int) Unit (Bool) := lp0 ⟨[0, 1, 5], [], [], []⟩ (fun (_, i5) => [.dat (strN a0), .dat (iN a1), .dat (iN i5)]) (fun (_, _) => []) (fun (n, i5) => f50_2 a0 a1 k0 n i5)
theorem Ef50_2 {a0 a1 k0 n i5} : (Lf50_2 a0 a1 k0).E (n, i5) = f50_2 a0 a1 k0 n i5 := rfl
def f50 (N : Nat) (a0 : ByteArray) (a1 : Int) : Option (Bool) :=
 joinK f50_c6 fun k0 =>
 f50_2 a0 a1 k0 N (0 : Int)
def G50 (ds : List D) (d : D) : Prop := ∃ (N : Nat) (a0 : ByteArray) (a1 : Int) (r : Bool), ds = [strN a0, iN a1] ∧ f50 N a0 a1 = some r ∧ d = bN r
theorem G50.lend {N : Nat} {a0 : ByteArray} {a1 : Int} {ρ : Type} {A : Bool → Option ρ} {q : ρ} {ds : List D} {K : D → Prop} (hd : ds = [strN a0, iN a1]) (h : ∀ r, A r = some q → K (bN r)) (hF : (f50 N a0 a1).bind A = some q) : ∃ d, (G50 ds d ∧ d.flatB = true) ∧ K d := by
  obtain ⟨r, hr, hA⟩ := bind_some hF
  exact ⟨_, ⟨⟨N, a0, a1, r, hd, hr, rfl⟩, rfl⟩, h r hA⟩
set_option maxRecDepth 20000 in
set_option maxHeartbeats 4000000 in
theorem P50 : PureOK Try.prog 50 G50 := by
  refine pure_of_vc (c := mkCtx tyTree []) rfl tyOK (ctx_nil) [[0]] 2 Try.func50 rfl rfl (by decide) (by kernel_rfl) ?_
  rintro ds d ⟨N, a0, a1, r, rfl, hF, rfl⟩ hok
  clear hok
  refine ⟨rfl, ?_⟩
  show vc _ _ _ _ ⟨[(0, .dat (strN a0)), (1, .dat (iN a1))], []⟩ _
  unfold f50 at hF
  repeat' (first
    | ((with_reducible first | refine q0 _ _ ?_ | refine q1 _ _ _ _ ?_ | refine q2 _ _ _ ?_); clear Q q0 q1 q2)
    | ((with_reducible first | refine seq_op ?hx (fun Q q0 q1 q2 => ?_) | refine draw_op ?hx (fun Q q0 q1 q2 => ?_)); (case hx => exact rfl); conv => whnf)
    | ((with_reducible refine cond_id ?_); (first | ((refine condKT rfl ?hy ?_); (case hy => first | assumption | exact notT (by assumption) | exact rfl)) | ((refine condKF rfl ?hy ?_); (case hy => first | assumption | exact notF (by assumption) | exact rfl)) | (revert hF; (with_reducible refine condF ?hx ?_ ?_); (case hx => exact rfl); all_goals (intro hc hF))))
    | ((with_reducible refine seq_nil ?_); (first | ((with_reducible refine hR _ ?_); clear R hR) | ((with_reducible refine hL _ ?_); clear L hL)))
    | ((with_reducible refine draw_nil ?_); (with_reducible refine hR _ _ ?hx ?_); (case hx => kernel_rfl); (first | clear R hR | clear hR))
    | ((with_reducible first | refine int_step ?_); conv => whnf)
    | (with_reducible first | refine vc_block ?_ | refine vc_skip ?_ | refine vc_ret ?_ | refine vc_exit ?_ | refine vc_region (fun R hR => ?_) | refine k_seq_ret ?_ | refine k_seq_exit ?_ | refine k_blk ?_ | refine k_blk_ret ?_ | refine k_blk_here ?_ | refine k_loop_ret ?_ | refine k_loop_exit ?_)
    | ((with_reducible refine vc_seqN [6] ?hx ?_); (case hx => exact rfl))
    | ((with_reducible refine vc_draw ?hx (fun R hR => ?_)); (case hx => exact rfl))
    | (revert hF; (refine Lp.cut0 Lf50_c6 f50_c6 6 rfl rfl ?_ ?_); (intro hF); rotate_left; (rintro _ hF; dsimp only [Lf50_c6] at hF; unfold f50_c6 at hF); rotate_right)
    | exact Lp.head Ef50_c6 hF () ⟨_, rfl, rfl, rfl, rfl⟩ rfl
    | (revert hF; (refine Lp.loop Ef50_2 () rfl ⟨_, rfl, rfl, rfl, rfl⟩ rfl (fun _ => rfl) ?_); rintro n i5 hF; dsimp only [Lf50_2, f50_2] at hF; unfold f50_2b at hF)
    | exact Lp.back Ef50_2 hF () ⟨_, rfl, rfl, rfl, rfl⟩ rfl
    | (revert hF; (refine idxS_step ?_); intro x hF; conv => whnf)
    | ((with_reducible first | refine k_blk_out ?hx ?_ | refine vc_condT ?hx ?_); (case hx => exact rfl))
    | ((refine row_all ?hn ?_); (case hn => first | exact rfl | (simp; done) | (simp; omega)); conv => whnf)
    | ((with_reducible refine le_step ?hn ?_); (case hn => first | exact rfl | assumption | omega); conv => whnf)
    | ((refine ⟨?hx, ?_⟩); (case hx => exact ⟨rfl, Nat.le_of_ble_eq_true rfl, rfl⟩); conv => whnf)
    | ((with_reducible refine ex_step ?_); conv => whnf)
    | ((with_reducible refine both_T ?hx ?_); (case hx => first | exact rfl | assumption | exact notT (by assumption)); conv => whnf)
    | ((with_reducible refine both_F ?hx ?_); (case hx => first | exact rfl | assumption | exact notF (by assumption)); conv => whnf)
    | (revert hF; (with_reducible refine ite_step ?_ ?_) <;> (intro hc hF; conv => whnf))
    | ((with_reducible refine vc_condF ?hx ?_); (case hx => exact rfl))
    | (show retD _ _ _ _ _ _; conv => whnf)
    | ((refine ⟨?hx, trivial⟩); (case hx => (cases hF; exact rfl)))
    | ((refine ⟨?hx, ?_⟩); (case hx => decide); conv => whnf)
    | with_reducible refine k_seq ?_
    | (have hF : (none : Option _) = some _ := hF; cases hF))
end
end Go.Vc
namespace Go.Vc
open Go.Proofs
set_option linter.unusedVariables false
set_option linter.unnecessarySimpa false
set_option linter.unusedSimpArgs false
section
variable {c : Ctx} {p nid : Nat} {a b : Code} {st : St} {K : Ex → St → Prop}
def f28_c22 : Option (ByteArray × Int) :=
 some (emptyS, (16 : Int))
def Lf28_c22 : Lp (Unit) Unit (ByteArray × Int) := lp0 ⟨[], [], [], []⟩ (fun _ => []) (fun _ => []) (fun _ => f28_c22)
theorem Ef28_c22 : (Lf28_c22).E () = f28_c22 := rfl
def f28_c9 (a0 : ByteArray) (v6 : Int) (r8 : Int → Option (ByteArray × Int)) : Option (ByteArray × Int) :=
 r8 (W (v6 + (1 : Int)))
def Lf28_c9 (a0 : ByteArray) (v6 : Int) (r8 : Int → Option (ByteArray × Int)) : Lp (Unit) Unit (ByteArray × Int) := lp0 ⟨[0, 5, 6], [], [], []⟩ (fun _ => [.dat (strN a0), .dat (iN (ByteArray.size a0 : Int)), .dat (iN v6)]) (fun _ => []) (fun _ => f28_c9 a0 v6 r8)
theorem Ef28_c9 {a0 v6 r8} : (Lf28_c9 a0 v6 r8).E () = f28_c9 a0 v6 r8 := rfl
def f28_c20 (a0 : ByteArray) (v6 : Int) (k1 : Option (ByteArray × Int)) (v7 : List Int) (v9 : Bool) : Option (ByteArray × Int) :=
 bif v9 then ((strOf v7).bind fun x3 =>
 some (x3, (0 : Int)))
 else k1
def Lf28_c20 (a0 : ByteArray) (v6 : Int) (k1 : Option (ByteArray × Int)) (v7 : List Int) : Lp (Bool) (Nat) (ByteArray × Int) := ⟨⟨[0, 5, 6, 7, 9], [90007], [], []⟩, fun v9 => [.dat (strN a0), .dat (iN (ByteArray.size a0 : Int)), .dat (iN v6), .rs 90007 (List.length v7), .kb v9], fun _ => [.row 5 1 (List.map u8N v7)], fun v9 => f28_c20 a0 v6 k1 v7 v9, fun v9 m0 => [.dat (strN a0), .dat (iN (ByteArray.size a0 : Int)), .dat (iN v6), .rs 90007 m0, .kb v9], fun _ _ => [.row 5 1 (List.map u8N v7)], fun _ => List.length v7, fun _ => rfl, fun _ => rfl⟩
theorem Ef28_c20 {a0 v6 k1 v7 v9} : (Lf28_c20 a0 v6 k1 v7).E v9 = f28_c20 a0 v6 k1 v7 v9 := rfl
def f28_17b (r17 : Bool → Int → Option (ByteArray × Int)) (a0 : ByteArray) (N : Nat) (v6 : Int) (v7 : List Int) (k2 : Bool → Option (ByteArray × Int)) (v9 : Bool) (v10 : Int) : Option (ByteArray × Int) :=
 bif decide (v10 ≤ (ByteArray.size a0 : Int)) then (bif v9 then ((strOf v7).bind fun x4 =>
 (f50 N x4 v10).bind fun x5 =>
 (f50 N a0 v10).bind fun x6 =>
 r17 (x5 == x6) (W (v10 + (1 : Int))))
 else (k2 v9))
 else (k2 v9)
def f28_17 (a0 : ByteArray) (N : Nat) (v6 : Int) (v7 : List Int) (k2 : Bool → Option (ByteArray × Int)) : Nat → Bool → Int → Option (ByteArray × Int)
  | 0, _, _ => none
  | n + 1, v9, v10 => f28_17b (f28_17 a0 N v6 v7 k2 n) a0 N v6 v7 k2 v9 v10
def Lf28_17 (a0 : ByteArray) (N : Nat) (v6 : Int) (v7 : List Int) (k2 : Bool → Option (ByteArray × Int)) : Lp (Nat × Bool × Int) (Nat) (ByteArray × Int) := ⟨⟨[0, 5, 6, 7, 9, 10], [90007], [], []⟩, fun (_, v9, v10) => [.dat (strN a0), .dat (iN (ByteArray.size a0 : Int)), .dat (iN v6), .rs 90007 (List.length v7), .kb v9, .dat (iN v10)], fun (_, _, _) => [.row 5 1 (List.map u8N v7)], fun (n, v9, v10) => f28_17 a0 N v6 v7 k2 n v9 v10, fun (_, v9, v10) m0 => [.dat (strN a0), .dat (iN (ByteArray.size a0 : Int)), .dat (iN v6), .rs 90007 m0, .kb v9, .dat (iN v10)], fun (_, _, _) _ => [.row 5 1 (List.map u8N v7)], fun (_, _, _) => List.length v7, fun _ => rfl, fun _ => rfl⟩
theorem Ef28_17 {a0 N v6 v7 k2 n v9 v10} : (Lf28_17 a0 N v6 v7 k2).E (n, v9, v10) = f28_17 a0 N v6 v7 k2 n v9 v10 := rfl
def f28_c15 (a0 : ByteArray) (N : Nat) (v6 : Int) (k1 : Option (ByteArray × Int)) (v7 : List Int) : Option (ByteArray × Int) :=
 joinK (f28_c20 a0 v6 k1 v7) fun k2 =>
 f28_17 a0 N v6 v7 k2 N true (1 : Int)
def Lf28_c15 (a0 : ByteArray) (N : Nat) (v6 : Int) (k1 : Option (ByteArray × Int)) : Lp ((List Int)) (Nat) (ByteArray × Int) := ⟨⟨[0, 5, 6, 7], [90007], [(.slot 7, 90007, 5, 1)], []⟩, fun v7 => [.dat (strN a0), .dat (iN (ByteArray.size a0 : Int)), .dat (iN v6), .rs 90007 (List.length v7)], fun v7 => [.row 5 1 (List.map u8N v7)], fun v7 => f28_c15 a0 N v6 k1 v7, fun _ m0 => [.dat (strN a0), .dat (iN (ByteArray.size a0 : Int)), .dat (iN v6), .rs 90007 m0], fun v7 _ => [.row 5 1 (List.map u8N v7)], fun v7 => List.length v7, fun _ => rfl, fun _ => rfl⟩
theorem Ef28_c15 {a0 N v6 k1 v7} : (Lf28_c15 a0 N v6 k1).E v7 = f28_c15 a0 N v6 k1 v7 := rfl
def f28_12b (r12 : (List Int) → Int → Option (ByteArray × Int)) (a0 : ByteArray) (v6 : Int) (k3 : (List Int) → Option (ByteArray × Int)) (v7 : List Int) (v8 : Int) : Option (ByteArray × Int) :=
 bif decide (v8 < (ByteArray.size a0 : Int)) then ((chk (decide (0 ≤ (W ((W ((ByteArray.size a0 : Int) - (1 : Int))) - v8))))).bind fun _ =>
 (ix v7 v8).bind fun x7 =>
 (setx v7 v8 (Wk .u8 (W ((97 : Int) + (bitsI .and .i64 (Int.fdiv v6 (2 ^ (min (Int.toNat (W ((W ((ByteArray.size a0 : Int) - (1 : Int))) - v8))) 64))) (1 : Int)))))).bind fun x8 =>
 r12 x8 (W (v8 + (1 : Int))))
 else (k3 v7)
def f28_12 (a0 : ByteArray) (v6 : Int) (k3 : (List Int) → Option (ByteArray × Int)) : Nat → (List Int) → Int → Option (ByteArray × Int)
  | 0, _, _ => none
  | n + 1, v7, v8 => f28_12b (f28_12 a0 v6 k3 n) a0 v6 k3 v7 v8
def Lf28_12 (a0 : ByteArray) (v6 : Int) (k3 : (List Int) → Option (ByteArray × Int)) : Lp (Nat × (List Int) × Int) (Nat) (ByteArray × Int) := ⟨⟨[0, 5, 6, 7, 8], [90007], [(.slot 7, 90007, 5, 1)], []⟩, fun (_, v7, v8) => [.dat (strN a0), .dat (iN (ByteArray.size a0 : Int)), .dat (iN v6), .rs 90007 (List.length v7), .dat (iN v8)], fun (_, v7, _) => [.row 5 1 (List.map u8N v7)], fun (n, v7, v8) => f28_12 a0 v6 k3 n v7 v8, fun (_, _, v8) m0 => [.dat (strN a0), .dat (iN (ByteArray.size a0 : Int)), .dat (iN v6), .rs 90007 m0, .dat (iN v8)], fun (_, v7, _) _ => [.row 5 1 (List.map u8N v7)], fun (_, v7, _) => List.length v7, fun _ => rfl, fun _ => rfl⟩
theorem Ef28_12 {a0 v6 k3 n v7 v8} : (Lf28_12 a0 v6 k3).E (n, v7, v8) = f28_12 a0 v6 k3 n v7 v8 := rfl
def f28_8b (r8 : Int → Option (ByteArray × Int)) (a0 : ByteArray) (N : Nat) (k0 : Option (ByteArray × Int)) (v6 : Int) : Option (ByteArray × Int) :=
 (chk (decide (0 ≤ (ByteArray.size a0 : Int)))).bind fun _ =>
 bif decide (v6 < (W ((1 : Int) * 2 ^ (min (Int.toNat (ByteArray.size a0 : Int)) 64)))) then (joinK (f28_c9 a0 v6 r8) fun k1 =>
 (mkS 1 (0 : Int) (ByteArray.size a0 : Int) (ByteArray.size a0 : Int)).bind fun x2 =>
 joinK (f28_c15 a0 N v6 k1) fun k3 =>
 f28_12 a0 v6 k3 N x2 (0 : Int))
 else k0
def f28_8 (a0 : ByteArray) (N : Nat) (k0 : Option (ByteArray × Int)) : Nat → Int → Option (ByteArray × Int)
  | 0, _ => none
  | n + 1, v6 => f28_8b (f28_8 a0 N k0 n) a0 N k0 v6
def Lf28_8 (a0 : ByteArray) (N : Nat) (k0 : Option (ByteArray × Int)) : Lp (Nat × Int) Unit (ByteArray × Int) := lp0 ⟨[0, 5, 6], [], [], []⟩ (fun (_, v6) => [.dat (strN a0), .dat (iN (ByteArray.size a0 : Int)), .dat (iN v6)]) (fun (_, _) => []) (fun (n, v6) => f28_8 a0 N k0 n v6)
theorem Ef28_8 {a0 N k0 n v6} : (Lf28_8 a0 N k0).E (n, v6) = f28_8 a0 N k0 n v6 := rfl
def f28_c4 (a0 : ByteArray) (N : Nat) (v4 : Int) : Option (ByteArray × Int) :=
 bif decide (¬ v4 = (0 : Int)) then (some (emptyS, v4))
 else (joinK f28_c22 fun k0 =>
 f28_8 a0 N k0 N (0 : Int))
def Lf28_c4 (a0 : ByteArray) (N : Nat) : Lp (Int) Unit (ByteArray × Int) := lp0 ⟨[0, 4], [], [], []⟩ (fun v4 => [.dat (strN a0), .dat (iN v4)]) (fun _ => []) (fun v4 => f28_c4 a0 N v4)
theorem Ef28_c4 {a0 N v4} : (Lf28_c4 a0 N).E v4 = f28_c4 a0 N v4 := rfl
def f28 (N : Nat) (a0 : ByteArray) : Option (ByteArray × Int) :=
 (f24 N a0).bind fun x1 =>
 joinK (f28_c4 a0 N) fun k4 =>
 bif decide (x1 = (0 : Int)) then (bif decide ((14 : Int) < (ByteArray.size a0 : Int)) then (k4 (16 : Int))
 else (k4 x1))
 else (k4 x1)
def G28 (ds : List D) (d : D) : Prop := ∃ (N : Nat) (a0 : ByteArray) (r : ByteArray × Int), ds = [strN a0] ∧ f28 N a0 = some r ∧ d = .tup [strN r.1, iN r.2]
theorem G28.lend {N : Nat} {a0 : ByteArray} {ρ : Type} {A : (ByteArray × Int) → Option ρ} {q : ρ} {ds : List D} {K : D → Prop} (hd : ds = [strN a0]) (h : ∀ r, A r = some q → K (.tup [strN r.1, iN r.2])) (hF : (f28 N a0).bind A = some q) : ∃ d, (G28 ds d ∧ d.flatB = true) ∧ K d := by
  obtain ⟨r, hr, hA⟩ := bind_some hF
  exact ⟨_, ⟨⟨N, a0, r, hd, hr, rfl⟩, rfl⟩, h r hA⟩
set_option maxRecDepth 20000 in
set_option maxHeartbeats 4000000 in
theorem P28 : PureOK Try.prog 28 G28 := by
  refine pure_of_vc (c := mkCtx tyTree [(50, true, lendPg [[0], [0]] G50), (24, true, lendPg [[0]] G24)]) rfl tyOK (ctx_lend (callable Try.func50 rfl rfl) P50 (ctx_lend (callable Try.func24 rfl rfl) P24 (ctx_nil))) [[0], [0]] 1 Try.func28 rfl rfl (by decide) (by kernel_rfl) ?_
  rintro ds d ⟨N, a0, r, rfl, hF, rfl⟩ hok
  clear hok
  refine ⟨rfl, ?_⟩
  show vc _ _ _ _ ⟨[(0, .dat (strN a0))], []⟩ _
  unfold f28 at hF
  repeat' (first
    | ((with_reducible first | refine q0 _ _ ?_ | refine q1 _ _ _ _ ?_ | refine q2 _ _ _ ?_); clear Q q0 q1 q2)
    | ((with_reducible first | refine seq_op ?hx (fun Q q0 q1 q2 => ?_) | refine seq_op0 ?hx (fun Q q0 q1 q2 => ?_)); (case hx => exact rfl); conv => whnf)
    | ((with_reducible first | refine seq_off ?hx ?_ | refine seq_off0 ?hx ?_ | refine k_blk_out ?hx ?_ | refine vc_condT ?hx ?_); (case hx => exact rfl))
    | ((with_reducible refine seq_id ?_); (first | ((first | refine seq_opK rfl ?hy (fun Q q0 q1 q2 => ?_) | refine seq_opK0 rfl ?hy (fun Q q0 q1 q2 => ?_)); (case hy => first | assumption | exact notT (by assumption) | exact rfl); conv => whnf) | ((first | refine seq_offK rfl ?hy ?_ | refine seq_offK0 rfl ?hy ?_); (case hy => first | assumption | exact notF (by assumption) | exact rfl)) | (revert hF; (with_reducible first | refine seq_opF ?hx ?_ ?_ | refine seq_opF0 ?hx ?_ ?_); (case hx => exact rfl); (intro hc hF Q q0 q1 q2; conv => whnf); rotate_left; (intro hc hF); rotate_right) | (revert hF; (with_reducible first | refine seq_opN ?hx ?_ ?_ | refine seq_opN0 ?hx ?_ ?_); (case hx => exact rfl); (intro hc hF); rotate_left; (intro hc hF Q q0 q1 q2; conv => whnf); rotate_right)))
    | ((with_reducible refine cond_id ?_); (first | ((refine condKT rfl ?hy ?_); (case hy => first | assumption | exact notT (by assumption) | exact rfl)) | ((refine condKF rfl ?hy ?_); (case hy => first | assumption | exact notF (by assumption) | exact rfl)) | (revert hF; (with_reducible refine condF ?hx ?_ ?_); (case hx => exact rfl); all_goals (intro hc hF))))
    | ((with_reducible refine seq_nil ?_); (first | ((with_reducible refine hR _ ?_); clear R hR) | ((with_reducible refine hL _ ?_); clear L hL)))
    | ((with_reducible first | refine int_step ?_ | refine len_step ?_ | refine idx2 (by assumption) ?_ | refine idx3 (by assumption) ?_); conv => whnf)
    | (with_reducible first | refine vc_block ?_ | refine vc_skip ?_ | refine vc_ret ?_ | refine vc_exit ?_ | refine vc_region (fun R hR => ?_) | refine k_seq_ret ?_ | refine k_seq_exit ?_ | refine k_blk ?_ | refine k_blk_ret ?_ | refine k_blk_here ?_ | refine k_loop_ret ?_ | refine k_loop_exit ?_)
    | ((with_reducible refine vc_seqN [22, 9, 20, 15, 4] ?hx ?_); (case hx => exact rfl))
    | (revert hF; (refine Lp.cut0 Lf28_c22 f28_c22 22 rfl rfl ?_ ?_); (intro hF); rotate_left; (rintro _ hF; dsimp only [Lf28_c22] at hF; unfold f28_c22 at hF); rotate_right)
    | exact Lp.head Ef28_c22 hF () ⟨_, rfl, rfl, rfl, rfl⟩ rfl
    | (revert hF; (refine Lp.cut3 Lf28_c9 f28_c9 9 rfl rfl ?_ ?_); (intro hF); rotate_left; (rintro _ hF; dsimp only [Lf28_c9] at hF; unfold f28_c9 at hF); rotate_right)
    | exact Lp.head Ef28_c9 hF () ⟨_, rfl, rfl, rfl, rfl⟩ rfl
    | (revert hF; (refine Lp.cut4 Lf28_c20 f28_c20 20 rfl rfl ?_ ?_); (intro hF); rotate_left; (rintro v9 hF; dsimp only [Lf28_c20] at hF; unfold f28_c20 at hF); rotate_right)
    | exact Lp.head Ef28_c20 hF _ ⟨_, rfl, rfl, rfl, rfl⟩ (by first | exact rfl | ((try dsimp only [Lf28_c20]); first | assumption | omega | (simp only [List.length_set]; done)))
    | (revert hF; (refine Lp.loop Ef28_17 _ rfl ⟨_, rfl, rfl, rfl, rfl⟩ (by first | exact rfl | ((try dsimp only [Lf28_17]); first | assumption | omega | (simp only [List.length_set]; done))) (fun _ => rfl) ?_); rintro n ⟨v9, v10⟩ hF; dsimp only [Lf28_17, f28_17] at hF; unfold f28_17b at hF)
    | exact Lp.back Ef28_17 hF _ ⟨_, rfl, rfl, rfl, rfl⟩ (by first | exact rfl | ((try dsimp only [Lf28_17]); first | assumption | omega | (simp only [List.length_set]; done)))
    | (revert hF; (refine Lp.cut4 Lf28_c15 f28_c15 15 rfl rfl ?_ ?_); (intro hF); rotate_left; (rintro v7 hF; dsimp only [Lf28_c15] at hF; unfold f28_c15 at hF); rotate_right)
    | exact Lp.head Ef28_c15 hF _ ⟨_, rfl, rfl, rfl, rfl⟩ (by first | exact rfl | ((try dsimp only [Lf28_c15]); first | assumption | omega | (simp only [List.length_set]; done)))
    | (revert hF; (refine Lp.loop Ef28_12 _ rfl ⟨_, rfl, rfl, rfl, rfl⟩ (by first | exact rfl | ((try dsimp only [Lf28_12]); first | assumption | omega | (simp only [List.length_set]; done))) (fun _ => rfl) ?_); rintro n ⟨v7, v8⟩ hF; dsimp only [Lf28_12, f28_12] at hF; unfold f28_12b at hF)
    | exact Lp.back Ef28_12 hF _ ⟨_, rfl, rfl, rfl, rfl⟩ (by first | exact rfl | ((try dsimp only [Lf28_12]); first | assumption | omega | (simp only [List.length_set]; done)))
    | (revert hF; (refine Lp.loop Ef28_8 () rfl ⟨_, rfl, rfl, rfl, rfl⟩ rfl (fun _ => rfl) ?_); rintro n v6 hF; dsimp only [Lf28_8, f28_8] at hF; unfold f28_8b at hF)
    | exact Lp.back Ef28_8 hF () ⟨_, rfl, rfl, rfl, rfl⟩ rfl
    | (revert hF; (refine Lp.cut2 Lf28_c4 f28_c4 4 rfl rfl ?_ ?_); (intro hF); rotate_left; (rintro v4 hF; dsimp only [Lf28_c4] at hF; unfold f28_c4 at hF); rotate_right)
    | exact Lp.head Ef28_c4 hF () ⟨_, rfl, rfl, rfl, rfl⟩ rfl
    | (revert hF; (with_reducible refine G24.lend ?hx ?_); (case hx => exact rfl); intro v hF; conv => whnf)
    | (revert hF; (with_reducible refine G50.lend ?hx ?_); (case hx => exact rfl); intro v hF; conv => whnf)
    | (revert hF; (refine mkS_row (d := u8N) ?hz ?_); (case hz => exact rfl); intro x hF; conv => whnf)
    | (revert hF; (first | refine strOf_step (fun _ h => h) ?_ | refine strOf_step2 ?_); intro x hF; conv => whnf)
    | (revert hF; (with_reducible refine idx1 ?hn ?_); (case hn => first | exact rfl | exact (List.length_map _) | assumption | omega | simp); intro x hx hF; conv => whnf)
    | ((refine row_all ?hn ?_); (case hn => first | exact rfl | (simp; done) | (simp; omega)); conv => whnf)
    | ((with_reducible refine le_step ?hn ?_); (case hn => first | exact rfl | assumption | omega); conv => whnf)
    | ((with_reducible have hG := setx_fact hF); clear hF; (refine setx_step hG ?hs (fun q hl hF => ?_)); (case hs => exact rfl); clear hG; conv => whnf)
    | ((refine ⟨?hx, ?_⟩); (case hx => exact ⟨rfl, Nat.le_of_ble_eq_true rfl, rfl⟩); conv => whnf)
    | ((with_reducible refine ex_step ?_); conv => whnf)
    | ((with_reducible have hG := chk_fact hF); clear hF; (refine ⟨?hx, ?_⟩); (case hx => (first | exact of_decide_eq_true hG.1 | exact hG.1)); have hF := hG.2; clear hG; conv => whnf)
    | ((with_reducible refine both_T ?hx ?_); (case hx => first | exact rfl | assumption | exact notT (by assumption)); conv => whnf)
    | ((with_reducible refine both_F ?hx ?_); (case hx => first | exact rfl | assumption | exact notF (by assumption)); conv => whnf)
    | (revert hF; (with_reducible refine ite_step ?_ ?_) <;> (intro hc hF; conv => whnf))
    | ((with_reducible refine vc_condF ?hx ?_); (case hx => exact rfl))
    | (show retD _ _ _ _ _ _; conv => whnf)
    | ((refine ⟨?hx, trivial⟩); (case hx => (cases hF; exact rfl)))
    | ((refine ⟨?hx, ?_⟩); (case hx => decide); conv => whnf)
    | with_reducible refine k_seq ?_
    | (have hF : (none : Option _) = some _ := hF; cases hF))
end
end Go.Vc
namespace Go.Vc
open Go.Proofs
set_option linter.unusedVariables false
set_option linter.unnecessarySimpa false
set_option linter.unusedSimpArgs false
section
variable {c : Ctx} {p nid : Nat} {a b : Code} {st : St} {K : Ex → St → Prop}
def f4 (N : Nat) (a0 : Int) (a1 : Int) (a2 : Int) (a3 : ByteArray) : Option (Bool) :=
 bif decide ((100 : Int) < (ByteArray.size a3 : Int)) then ((f15 N ).bind fun x1 =>
 some (x1))
 else ((f25 N a0 a1 a2).bind fun x2 =>
 (f26 N a0 a1 a2).bind fun x3 =>
 (f27 N a3).bind fun x4 =>
 (f28 N a3).bind fun x5 =>
 bif decide (x2.1 = x3.1) then (bif decide (x2.2 = x3.2) then (bif decide (x4.1 = x5.1) then (bif decide (x4.2 = x5.2) then ((f15 N ).bind fun x6 =>
 some (x6))
 else (some (false)))
 else (some (false)))
 else (some (false)))
 else (some (false)))
def G4 (ds : List D) (d : D) : Prop := ∃ (N : Nat) (a0 : Int) (a1 : Int) (a2 : Int) (a3 : ByteArray) (r : Bool), ds = [iN a0, iN a1, iN a2, strN a3] ∧ f4 N a0 a1 a2 a3 = some r ∧ d = bN r
set_option maxRecDepth 20000 in
set_option maxHeartbeats 4000000 in
theorem P4 : PureOK Try.prog 4 G4 := by
  refine pure_of_vc (c := mkCtx tyTree [(28, true, lendPg [[0]] G28), (27, true, lendPg [[0]] G27), (26, true, lendPg [[0], [0], [0]] G26), (25, true, lendPg [[0], [0], [0]] G25), (15, true, lendPg [] G15)]) rfl tyOK (ctx_lend (callable Try.func28 rfl rfl) P28 (ctx_lend (callable Try.func27 rfl rfl) P27 (ctx_lend (callable Try.func26 rfl rfl) P26 (ctx_lend (callable Try.func25 rfl rfl) P25 (ctx_lend (callable Try.func15 rfl rfl) P15 (ctx_nil)))))) [[0]] 4 Try.func4 rfl rfl (by decide) (by kernel_rfl) ?_
  rintro ds d ⟨N, a0, a1, a2, a3, r, rfl, hF, rfl⟩ hok
  clear hok
  refine ⟨rfl, ?_⟩
  show vc _ _ _ _ ⟨[(0, .dat (iN a0)), (1, .dat (iN a1)), (2, .dat (iN a2)), (3, .dat (strN a3))], []⟩ _
  unfold f4 at hF
  repeat' (first
    | ((with_reducible first | refine q0 _ _ ?_ | refine q1 _ _ _ _ ?_ | refine q2 _ _ _ ?_); clear Q q0 q1 q2)
    | ((with_reducible first | refine seq_op ?hx (fun Q q0 q1 q2 => ?_)); (case hx => exact rfl); conv => whnf)
    | ((with_reducible first | refine seq_off ?hx ?_ | refine seq_off0 ?hx ?_ | refine k_blk_out ?hx ?_ | refine vc_condT ?hx ?_); (case hx => exact rfl))
    | ((with_reducible refine seq_id ?_); (first | ((first | refine seq_opK rfl ?hy (fun Q q0 q1 q2 => ?_) | refine seq_opK0 rfl ?hy (fun Q q0 q1 q2 => ?_)); (case hy => first | assumption | exact notT (by assumption) | exact rfl); conv => whnf) | ((first | refine seq_offK rfl ?hy ?_ | refine seq_offK0 rfl ?hy ?_); (case hy => first | assumption | exact notF (by assumption) | exact rfl)) | (revert hF; (with_reducible first | refine seq_opF ?hx ?_ ?_ | refine seq_opF0 ?hx ?_ ?_); (case hx => exact rfl); (intro hc hF Q q0 q1 q2; conv => whnf); rotate_left; (intro hc hF); rotate_right) | (revert hF; (with_reducible first | refine seq_opN ?hx ?_ ?_ | refine seq_opN0 ?hx ?_ ?_); (case hx => exact rfl); (intro hc hF); rotate_left; (intro hc hF Q q0 q1 q2; conv => whnf); rotate_right)))
    | ((with_reducible refine cond_id ?_); (first | ((refine condKT rfl ?hy ?_); (case hy => first | assumption | exact notT (by assumption) | exact rfl)) | ((refine condKF rfl ?hy ?_); (case hy => first | assumption | exact notF (by assumption) | exact rfl)) | (revert hF; (with_reducible refine condF ?hx ?_ ?_); (case hx => exact rfl); all_goals (intro hc hF))))
    | ((with_reducible refine seq_nil ?_); (first | ((with_reducible refine hR _ ?_); clear R hR) | ((with_reducible refine hL _ ?_); clear L hL)))
    | ((with_reducible first | refine int_step ?_); conv => whnf)
    | (with_reducible first | refine vc_block ?_ | refine vc_skip ?_ | refine vc_ret ?_ | refine vc_exit ?_ | refine vc_region (fun R hR => ?_) | refine k_seq_ret ?_ | refine k_seq_exit ?_ | refine k_blk ?_ | refine k_blk_ret ?_ | refine k_blk_here ?_)
    | ((with_reducible refine vc_seqN [] ?hx ?_); (case hx => exact rfl))
    | (revert hF; (with_reducible refine G15.lend ?hx ?_); (case hx => exact rfl); intro v hF; conv => whnf)
    | (revert hF; (with_reducible refine G25.lend ?hx ?_); (case hx => exact rfl); intro v hF; conv => whnf)
    | (revert hF; (with_reducible refine G26.lend ?hx ?_); (case hx => exact rfl); intro v hF; conv => whnf)
    | (revert hF; (with_reducible refine G27.lend ?hx ?_); (case hx => exact rfl); intro v hF; conv => whnf)
    | (revert hF; (with_reducible refine G28.lend ?hx ?_); (case hx => exact rfl); intro v hF; conv => whnf)
    | ((refine row_all ?hn ?_); (case hn => first | exact rfl | (simp; done) | (simp; omega)); conv => whnf)
    | ((with_reducible refine le_step ?hn ?_); (case hn => first | exact rfl | assumption | omega); conv => whnf)
    | ((refine ⟨?hx, ?_⟩); (case hx => exact ⟨rfl, Nat.le_of_ble_eq_true rfl, rfl⟩); conv => whnf)
    | ((with_reducible refine ex_step ?_); conv => whnf)
    | ((with_reducible refine both_T ?hx ?_); (case hx => first | exact rfl | assumption | exact notT (by assumption)); conv => whnf)
    | ((with_reducible refine both_F ?hx ?_); (case hx => first | exact rfl | assumption | exact notF (by assumption)); conv => whnf)
    | (revert hF; (with_reducible refine ite_step ?_ ?_) <;> (intro hc hF; conv => whnf))
    | ((with_reducible refine vc_condF ?hx ?_); (case hx => exact rfl))
    | (show retD _ _ _ _ _ _; conv => whnf)
    | ((refine ⟨?hx, trivial⟩); (case hx => (cases hF; exact rfl)))
    | ((refine ⟨?hx, ?_⟩); (case hx => decide); conv => whnf)
    | with_reducible refine k_seq ?_
    | (have hF : (none : Option _) = some _ := hF; cases hF))
end
end Go.Vc
namespace Go.Vc
set_option linter.unusedVariables false
set_option linter.unnecessarySimpa false
set_option linter.unusedSimpArgs false
section
variable {α β σ : Type}
open Classical in
theorem loop_ex {F : Nat → Int → Option β} {k0 e : Option β} {p : Nat → Prop} (len : Nat)
    (hs : ∀ n i, i < len → F (n + 1) (i : Int) = if p i then e else F n ((i + 1 : Nat) : Int)) (he : ∀ n, F (n + 1) (len : Int) = k0) :
    ∀ n i, i ≤ len → len - i < n → F n (i : Int) = if (∃ j, i ≤ j ∧ j < len ∧ p j) then e else k0 := by
  intro n
  induction n with
  | zero => intro i _ h; omega
  | succ n ih =>
    intro i hi hn
    by_cases h : i = len
    · subst h
      rw [he, if_neg]
      rintro ⟨j, h1, h2, _⟩; omega
    · rw [hs n i (by omega)]
      by_cases hp : p i
      · rw [if_pos hp, if_pos ⟨i, Nat.le_refl _, by omega, hp⟩]
      · rw [if_neg hp, ih (i + 1) (by omega) (by omega)]
        by_cases hx : ∃ j, i + 1 ≤ j ∧ j < len ∧ p j
        · obtain ⟨j, h1, h2, h3⟩ := hx
          rw [if_pos ⟨j, h1, h2, h3⟩, if_pos ⟨j, by omega, h2, h3⟩]
        · rw [if_neg hx, if_neg]
          rintro ⟨j, h1, h2, h3⟩
          by_cases hj : j = i
          · subst hj; exact hp h3
          · exact hx ⟨j, by omega, h2, h3⟩
open Classical in
theorem loop_ex0 {F : Nat → Int → Option β} {k0 e : Option β} {p : Nat → Prop} (len : Nat)
    (hs : ∀ n i, i < len → F (n + 1) (i : Int) = if p i then e else F n ((i + 1 : Nat) : Int)) (he : ∀ n, F (n + 1) (len : Int) = k0) {n : Nat} (hn : len < n) :
    F n 0 = if (∃ j, j < len ∧ p j) then e else k0 := by
  have := loop_ex len hs he n 0 (by omega) (by omega)
  rw [show ((0 : Nat) : Int) = 0 from rfl] at this
  rw [this]
  by_cases h : ∃ j, j < len ∧ p j
  · obtain ⟨j, h1, h2⟩ := h
    rw [if_pos ⟨j, by omega, h1, h2⟩, if_pos ⟨j, h1, h2⟩]
  · rw [if_neg h, if_neg]
    rintro ⟨j, _, h1, h2⟩; exact h ⟨j, h1, h2⟩
end
end Go.Vc
namespace Go.Vc
set_option linter.unusedVariables false
set_option linter.unnecessarySimpa false
set_option linter.unusedSimpArgs false
set_option linter.unusedSimpArgs false
section
variable {l m : List UInt8}
theorem S_ex (s : ByteArray) : ∃ l, s = strC l := ⟨s.data.toList, by cases s; simp [strC]⟩
@[simp] theorem strC_size : (strC l).size = l.length := by simp [strC, ByteArray.size]
@[simp] theorem strC_toList : (strC l).data.toList = l := by simp [strC]
theorem strC_inj : strC l = strC m ↔ l = m := by
  constructor
  · intro h
    have := congrArg (fun s : ByteArray => s.data.toList) h
    simpa using this
  · rintro rfl; rfl
theorem emptyS_eq : emptyS = strC [] := rfl
theorem extract_L {a b : Nat} : (strC l).extract a b = strC ((l.take b).drop a) := by
  have h : ∀ s : ByteArray, s = strC s.data.toList := fun s => by cases s; simp [strC]
  rw [h ((strC l).extract a b)]
  simp [ByteArray.data_extract, List.drop_take, strC]
theorem subS_L {a b : Nat} (h : a ≤ b) (h' : b ≤ l.length) : subS (strC l) (a : Int) (b : Int) = some (strC ((l.take b).drop a)) := by
  unfold subS
  rw [if_pos ⟨by omega, by omega, by simp; omega⟩]
  simp only [Int.toNat_natCast, subStr, extract_L]
theorem append_L : strC l ++ strC m = strC (l ++ m) := by
  have h : ∀ s : ByteArray, s = strC s.data.toList := fun s => by cases s; simp [strC]
  rw [h (strC l ++ strC m)]
  simp [strC]
theorem addS_L (h : l.length + m.length ≤ 1000000) : addS (strC l) (strC m) = some (strC (l ++ m)) := by
  unfold addS
  rw [if_pos (by simp [maxLen]; omega), append_L]
theorem byteAt_L {i : Nat} (h : i < l.length) : byteAt (strC l) i = (l[i].toNat : Int) := by
  unfold byteAt
  simp [h]
theorem idxS_L {i : Nat} (h : i < l.length) : idxS (strC l) (i : Int) = some (l[i].toNat : Int) := by
  unfold idxS
  rw [if_pos ⟨by omega, by simp; omega⟩]
  simp only [Int.toNat_natCast, byteAt_L h]
theorem toNat_inj {a b : UInt8} : (a.toNat : Int) = (b.toNat : Int) ↔ a = b := by
  constructor
  · intro h; exact UInt8.toNat_inj.1 (by omega)
  · rintro rfl; rfl
theorem rune_lo {p : Nat} (h : p < l.length) (hb : l[p].toNat < 128) : runeAt (strC l) p = ((l[p].toNat : Int), p + 1) := by
  have hs : p < (strC l).size := by simpa using h
  have he : (strC l)[p] = l[p] := by
    have h1 : byteAt (strC l) p = _ := (str_get (strC l) p hs).2.symm
    have h2 := byteAt_L h
    exact toNat_inj.1 (h1.symm.trans h2)
  unfold runeAt
  rw [decode_ascii (strC l) p hs (by rw [he]; omega)]
  simp only [he]
  rfl
theorem rune_hi {p : Nat} (h : p < l.length) (hb : 128 ≤ l[p].toNat) : 128 ≤ (runeAt (strC l) p).1 := by
  have hs : p < (strC l).size := by simpa using h
  have he : (strC l)[p] = l[p] := by
    have h1 : byteAt (strC l) p = _ := (str_get (strC l) p hs).2.symm
    have h2 := byteAt_L h
    exact toNat_inj.1 (h1.symm.trans h2)
  have := (decode_high (strC l) p hs (by rw [he]; omega)).1
  show (128 : Int) ≤ ((Utf8.decode (strC l) p).1 : Int)
  omega
end
def okb (b : UInt8) : Bool := decide (97 ≤ b.toNat) && decide (b.toNat ≤ 122)
def chk8 (l : List UInt8) : Int := if l = [] then 1 else if 24 < l.length then 19 else if l.all okb then 0 else 9
theorem drop_all {l : List UInt8} {p : Nat} (h : p < l.length) : (l.drop p).all okb = (okb l[p] && (l.drop (p + 1)).all okb) := by
  rw [List.drop_eq_getElem_cons h]; rfl
theorem okb_lo {b : UInt8} (h : (b.toNat : Int) < 97) : okb b = false := by simp [okb]; omega
theorem okb_hi {b : UInt8} (h : (122 : Int) < (b.toNat : Int)) : okb b = false := by simp [okb]; omega
theorem okb_in {b : UInt8} (h : ¬ (b.toNat : Int) < 97) (h' : ¬ (122 : Int) < (b.toNat : Int)) : okb b = true := by simp [okb]; omega
theorem f23_loop {l : List UInt8} {k0 : Option Int} : ∀ (n p : Nat), l.length - p < n → p ≤ l.length → f23_6 (strC l) k0 n p = if (l.drop p).all okb then k0 else some 9 := by
  intro n
  induction n with
  | zero => intro p h; omega
  | succ n ih =>
    intro p hn hp
    unfold f23_6 f23_6b
    by_cases h : p < l.length
    · simp only [strC_size, h, decide_true, cond_true, Option.bind_some]
      rw [drop_all h]
      by_cases hb : l[p].toNat < 128
      · rw [rune_lo h hb]
        by_cases h1 : (l[p].toNat : Int) < 97
        · simp [h1, okb_lo h1]
        · by_cases h2 : (122 : Int) < l[p].toNat
          · simp [h1, h2, okb_hi h2]
          · simp only [h1, h2, decide_false, cond_false, okb_in h1 h2, Bool.true_and]
            rw [ih (p + 1) (by omega) (by omega)]
      · have := rune_hi h (by omega)
        simp only [show ¬ (runeAt (strC l) p).1 < 97 by omega, show (122 : Int) < (runeAt (strC l) p).1 by omega, decide_false, decide_true, cond_false, cond_true]
        rw [okb_hi (by omega)]; simp
    · have : p = l.length := by omega
      subst this
      simp
theorem f24_loop {l : List UInt8} {k0 : Option Int} (hl : l.length ≤ 1000) : ∀ (n p : Nat), l.length - p < n → p ≤ l.length → f24_6 (strC l) k0 n (p : Int) = if (l.drop p).all okb then k0 else some 9 := by
  intro n
  induction n with
  | zero => intro p h; omega
  | succ n ih =>
    intro p hn hp
    unfold f24_6 f24_6b
    by_cases h : p < l.length
    · simp only [strC_size, show (p : Int) < (l.length : Int) by omega, decide_true, cond_true, idxS_L h, Option.bind_some]
      rw [drop_all h]
      by_cases h1 : (l[p].toNat : Int) < 97
      · simp [h1, okb_lo h1]
      · by_cases h2 : (122 : Int) < l[p].toNat
        · simp [h1, h2, okb_hi h2]
        · simp only [h1, h2, decide_false, cond_false, okb_in h1 h2, Bool.true_and]
          rw [W_nat (by omega), ih (p + 1) (by omega) (by omega)]
    · have : p = l.length := by omega
      subst this
      simp
theorem f23_eq {l : List UInt8} {N : Nat} (hN : 30 ≤ N) : f23 N (strC l) = some (chk8 l) := by
  unfold f23 chk8
  by_cases h : l = []
  · subst h; simp [emptyS_eq]
  · simp only [emptyS_eq, strC_inj, h, decide_false, cond_false, strC_size, if_false]
    by_cases h2 : 24 < l.length
    · simp [h2, show (24 : Int) < (l.length : Int) by omega]
    · simp only [show ¬ (24 : Int) < (l.length : Int) by omega, decide_false, cond_false, joinK]
      rw [f23_loop N 0 (by omega) (by omega)]
      simp [h2, f23_c10]
      split <;> rfl
theorem f24_eq {l : List UInt8} {N : Nat} (hN : 30 ≤ N) : f24 N (strC l) = some (chk8 l) := by
  unfold f24 chk8
  by_cases h : l = []
  · subst h; simp [emptyS_eq]
  · simp only [emptyS_eq, strC_inj, h, decide_false, cond_false, strC_size, if_false]
    by_cases h2 : 24 < l.length
    · simp [h2, show (24 : Int) < (l.length : Int) by omega]
    · simp only [show ¬ (24 : Int) < (l.length : Int) by omega, decide_false, cond_false, joinK]
      have := f24_loop (k0 := f24_c10) (l := l) (by omega) N 0 (by omega) (by omega)
      rw [show ((0 : Nat) : Int) = 0 from rfl] at this
      rw [this]
      simp [h2, f24_c10]
      split <;> rfl
theorem chk8_zero {l : List UInt8} : chk8 l = 0 ↔ l ≠ [] ∧ l.length ≤ 24 ∧ l.all okb = true := by
  unfold chk8
  by_cases h : l = [] <;> by_cases h2 : 24 < l.length <;> by_cases h3 : l.all okb = true <;> simp [h, h2, h3] <;> omega
def isP (l : List UInt8) (p : Nat) : Bool := (l.drop p).isPrefixOf l
theorem isP_iff {l : List UInt8} {p : Nat} : isP l p = true ↔ ∀ i, (h : i + p < l.length) → l[i] = l[i + p] := by
  unfold isP
  rw [List.isPrefixOf_iff_prefix, List.prefix_iff_getElem?]
  constructor
  · intro h i hi
    have := h i (by simp; omega)
    rw [List.getElem_drop] at this
    rw [List.getElem?_eq_getElem (by omega)] at this
    have := Option.some.inj this
    rw [this]
    congr 1
    omega
  · intro h i hi
    simp at hi
    rw [List.getElem?_eq_getElem (by omega), h i (by omega), List.getElem_drop]
    congr 2
    omega
theorem f50_eq {l : List UInt8} {p N : Nat} (hl : l.length ≤ 1000) (hp : p ≤ 1000) (hN : l.length < N) : f50 N (strC l) (p : Int) = some (isP l p) := by
  unfold f50
  simp only [joinK]
  rw [loop_ex0 (F := f50_2 (strC l) (p : Int) f50_c6) (k0 := f50_c6) (e := some false) (p := fun i => ∃ h : i + p < l.length, l[i] ≠ l[i + p]) (l.length - p)]
  · by_cases h : ∃ j, j < l.length - p ∧ ∃ h : j + p < l.length, l[j] ≠ l[j + p]
    · rw [if_pos h]
      congr 1
      obtain ⟨j, _, h1, h2⟩ := h
      symm
      rw [Bool.eq_false_iff]
      intro hh
      exact h2 (isP_iff.1 hh j h1)
    · rw [if_neg h]
      show some true = _
      congr 1
      symm
      rw [isP_iff]
      intro i hi
      by_cases he : l[i] = l[i + p]
      · exact he
      · exact absurd ⟨i, by omega, hi, he⟩ h
  · intro n i hi
    conv => lhs; unfold f50_2 f50_2b
    rw [show ((i : Int) + (p : Int)) = ((i + p : Nat) : Int) by omega, W_of (by omega) (by omega)]
    simp only [strC_size, show ((i + p : Nat) : Int) < (l.length : Int) by omega, decide_true, cond_true, idxS_L (show i < l.length by omega), idxS_L (show i + p < l.length by omega), Option.bind_some, toNat_inj]
    rw [W_nat (by omega)]
    by_cases he : l[i] = l[i + p]
    · rw [if_neg (by rintro ⟨_, h⟩; exact h he)]; simp [he]
    · rw [if_pos ⟨by omega, he⟩]; simp [he]
  · intro n
    conv => lhs; unfold f50_2 f50_2b
    rw [W_of (by omega) (by omega)]
    simp only [strC_size]
    rw [decide_eq_false (by omega)]; rfl
  · omega
end Go.Vc
namespace Go.Vc
open Go.Proofs
set_option linter.unusedVariables false
set_option linter.unnecessarySimpa false
set_option linter.unusedSimpArgs false
end Go.Vc
namespace Go.Vc
open Go.Proofs
set_option linter.unusedVariables false
set_option linter.unnecessarySimpa false
set_option linter.unusedSimpArgs false
end Go.Vc
namespace Go.Vc
open Go.Proofs
set_option linter.unusedVariables false
set_option linter.unnecessarySimpa false
set_option linter.unusedSimpArgs false
end Go.Vc
namespace Go.Vc
open Go.Proofs
set_option linter.unusedVariables false
set_option linter.unnecessarySimpa false
set_option linter.unusedSimpArgs false
end Go.Vc
namespace Go.Vc
open Go.Proofs
set_option linter.unusedVariables false
set_option linter.unnecessarySimpa false
set_option linter.unusedSimpArgs false
set_option linter.unusedSimpArgs false
def perN (l : List UInt8) : List Nat := (List.range' 1 l.length).filter (isP l)
def toI (l : List Nat) : List Int := l.map fun (i : Nat) => (i : Int)
theorem isPer_L {l : List UInt8} {p : Nat} : isPer (strC l) p = isP l p := by
  unfold isPer isP Lib.hasPrefix
  rw [strC_size, extract_L, strC_toList, strC_toList, List.take_length]
theorem perL_L {l : List UInt8} : perL (strC l) = toI (perN l) := by
  unfold perL perTo perN toI
  rw [strC_size, Nat.add_sub_cancel]
  congr 1
  exact List.filter_congr fun x _ => isPer_L
theorem f47_eq {l : List UInt8} {N : Nat} (hl : l.length ≤ 1000) : f47 N (strC l) = some (toI (perN l)) := by
  unfold f47
  rw [if_pos (by simpa using hl), perL_L]
theorem chk8_len {l : List UInt8} (h : chk8 l = 0) : l.length ≤ 24 := (chk8_zero.1 h).2.1
theorem loop_find1 {β : Type} {F : Nat → Int → Option β} {k : Nat → Option β} {p : Nat → Prop} (a m : Nat) (hm : p m)
    (hs : ∀ n i, a ≤ i → i ≤ m → ¬ p i → F (n + 1) (i : Int) = F n ((i + 1 : Nat) : Int)) (he : ∀ n i, a ≤ i → i ≤ m → p i → F (n + 1) (i : Int) = k i) :
    ∀ n i, a ≤ i → i ≤ m → m - i < n → ∃ j, i ≤ j ∧ j ≤ m ∧ p j ∧ (∀ q, i ≤ q → q < j → ¬ p q) ∧ F n (i : Int) = k j := by
  intro n
  induction n with
  | zero => intro i _ _ h; omega
  | succ n ih =>
    intro i ha hi hn
    by_cases h : p i
    · exact ⟨i, Nat.le_refl _, hi, h, fun q h1 h2 => by omega, he n i ha hi h⟩
    · have : i ≠ m := fun hh => h (hh ▸ hm)
      obtain ⟨j, h1, h2, h3, h4, h5⟩ := ih (i + 1) (by omega) (by omega) (by omega)
      refine ⟨j, by omega, h2, h3, fun q h6 h7 => ?_, (hs n i ha hi h).trans h5⟩
      by_cases hq : q = i
      · subst hq; exact h
      · exact h4 q (by omega) h7
theorem toI_inj {a b : List Nat} : toI a = toI b ↔ a = b := by
  unfold toI
  constructor
  · intro h
    have := congrArg (List.map Int.toNat) h
    simpa [Function.comp_def] using this
  · rintro rfl; rfl
theorem perN_len {l : List UInt8} : (perN l).length ≤ l.length := Nat.le_trans (List.length_filter_le _ _) (by simp)
theorem toI_len {a : List Nat} : (toI a).length = a.length := by simp [toI]
theorem isP_len {l : List UInt8} : isP l l.length = true := by simp [isP]
end Go.Vc
namespace Go.Vc
open Go.Proofs
set_option linter.unusedVariables false
set_option linter.unnecessarySimpa false
set_option linter.unusedSimpArgs false
set_option linter.unusedSimpArgs false
end Go.Vc
namespace Go.Vc
open Go.Proofs
set_option linter.unusedVariables false
set_option linter.unnecessarySimpa false
set_option linter.unusedSimpArgs false
end Go.Vc
namespace Go.Vc
open Go.Proofs
set_option linter.unusedVariables false
set_option linter.unnecessarySimpa false
set_option linter.unusedSimpArgs false
end Go.Vc
namespace Go.Vc
open Go.Proofs
set_option linter.unusedVariables false
set_option linter.unnecessarySimpa false
set_option linter.unusedSimpArgs false
end Go.Vc
namespace Go.Vc
open Go.Proofs
set_option linter.unusedVariables false
set_option linter.unnecessarySimpa false
set_option linter.unusedSimpArgs false
set_option linter.unusedSimpArgs false
def Per {α : Type} (f : Nat → α) (n p : Nat) : Prop := ∀ i, i + p < n → f i = f (i + p)
section
variable {α : Type} {f : Nat → α}
theorem Per.mul {n p : Nat} (h : Per f n p) : ∀ m, Per f n (m * p) := by
  intro m
  induction m with
  | zero => intro i hi; simp
  | succ m ih =>
    intro i hi
    rw [Nat.succ_mul] at hi ⊢
    rw [ih i (by omega), h (i + m * p) (by omega)]
    congr 1
    omega
theorem Per.dvd {n p q : Nat} (h : Per f n p) (hd : p ∣ q) : Per f n q := by
  obtain ⟨m, rfl⟩ := hd
  rw [Nat.mul_comm]
  exact h.mul m
theorem Per.less {n m p : Nat} (h : Per f n p) (hm : m ≤ n) : Per f m p := fun i hi => h i (by omega)
theorem Per.grow {n p g : Nat} (hg : 1 ≤ g) (hd : g ∣ p) (hp : 1 ≤ p) (hn : 2 * p ≤ n) (h : Per f n p) (h' : Per f (n - p) g) : Per f n g := by
  have hgp : g ≤ p := Nat.le_of_dvd hp hd
  intro i hi
  by_cases h1 : i + g < n - p
  · exact h' i h1
  · have e1 : f (i + g) = f (i + g - p) := by
      have := h (i + g - p) (by omega)
      rw [this]; congr 1; omega
    rw [e1]
    by_cases h2 : p ≤ i
    · have e2 : f i = f (i - p) := by
        have := h (i - p) (by omega)
        rw [this]; congr 1; omega
      rw [e2, h' (i - p) (by omega)]
      congr 1; omega
    · have hd2 : g ∣ p - g := Nat.dvd_sub hd (Nat.dvd_refl g)
      have := h'.dvd hd2 (i + g - p) (by omega)
      rw [this]
      congr 1; omega
theorem fine_wilf : ∀ (s n p q : Nat), p + q ≤ s → 1 ≤ p → 1 ≤ q → p + q - Nat.gcd p q ≤ n → Per f n p → Per f n q → Per f n (Nat.gcd p q) := by
  intro s
  induction s with
  | zero => intro n p q h h1 h2; omega
  | succ s ih =>
    intro n p q hs hp hq hn h1 h2
    have core : ∀ p q : Nat, p + q ≤ s + 1 → 1 ≤ p → p < q → p + q - Nat.gcd p q ≤ n → Per f n p → Per f n q → Per f n (Nat.gcd p q) := by
      intro p q hs hp hpq hn h1 h2
      have hg : Nat.gcd p (q - p) = Nat.gcd p q := by
        rw [Nat.gcd_comm, Nat.gcd_comm p q]
        have := Nat.gcd_sub_self_left (m := p) (n := q) (Nat.le_of_lt hpq)
        exact this
      have hgd : Nat.gcd p q ∣ q - p := by rw [← hg]; exact Nat.gcd_dvd_right _ _
      have hgp : Nat.gcd p q ∣ p := Nat.gcd_dvd_left _ _
      have hgle : Nat.gcd p q ≤ q - p := Nat.le_of_dvd (by omega) hgd
      have hg1 : 1 ≤ Nat.gcd p q := Nat.gcd_pos_of_pos_left _ hp
      have hper : Per f (n - p) (q - p) := by
        intro i hi
        have e1 := h2 i (by omega)
        have e2 := h1 (i + (q - p)) (by omega)
        rw [e1, e2]; congr 1; omega
      have := ih (n - p) p (q - p) (by omega) hp (by omega) (by rw [hg]; omega) (h1.less (by omega)) hper
      rw [hg] at this
      exact Per.grow hg1 hgp hp (by omega) h1 this
    rcases Nat.lt_trichotomy p q with h | h | h
    · exact core p q hs hp h hn h1 h2
    · subst h; rw [Nat.gcd_self]; exact h1
    · rw [Nat.gcd_comm]
      exact core q p (by omega) hq h (by rw [Nat.gcd_comm, Nat.add_comm]; exact hn) h2 h1
end
theorem isP_per {l : List UInt8} {p : Nat} : isP l p = true ↔ Per (fun i => l[i]?) l.length p := by
  rw [isP_iff]
  constructor
  · intro h i hi
    simp only
    rw [List.getElem?_eq_getElem (by omega), List.getElem?_eq_getElem hi, h i hi]
  · intro h i hi
    have := h i hi
    simp only at this
    rw [List.getElem?_eq_getElem (by omega), List.getElem?_eq_getElem hi] at this
    exact Option.some.inj this
def Abc (l : List UInt8) : Prop := ∀ b ∈ l, b = 97 ∨ b = 98 ∨ b = 99
theorem Abc.ok {l : List UInt8} (h : Abc l) : l.all okb = true := by
  rw [List.all_eq_true]
  intro b hb
  rcases h b hb with rfl | rfl | rfl <;> decide
theorem Abc.chk {l : List UInt8} (h : Abc l) (h1 : 1 ≤ l.length) (h2 : l.length ≤ 24) : chk8 l = 0 :=
  chk8_zero.2 ⟨by rintro rfl; simp at h1, h2, h.ok⟩
end Go.Vc
namespace Go.Vc
open Go.Proofs
set_option linter.unusedVariables false
set_option linter.unnecessarySimpa false
set_option linter.unusedSimpArgs false
set_option linter.unusedSimpArgs false
def Nb (n p q b c : Nat) : Prop := c < n ∧ (c = b + p ∨ b = c + p ∨ c = b + q ∨ b = c + q)
inductive Conn (n p q : Nat) (a : Nat) : Nat → Prop
  | refl : Conn n p q a a
  | step {b c : Nat} : Conn n p q a b → Nb n p q b c → Conn n p q a c
section
variable {n p q : Nat}
theorem Nb.symm {b c : Nat} (hb : b < n) (h : Nb n p q b c) : Nb n p q c b := ⟨hb, by rcases h.2 with h | h | h | h <;> simp [h]⟩
theorem Conn.trans {a b c : Nat} (h1 : Conn n p q a b) (h2 : Conn n p q b c) : Conn n p q a c := by
  induction h2 with
  | refl => exact h1
  | step _ hn ih => exact ih.step hn
theorem Conn.lt {a b : Nat} (h : Conn n p q a b) (ha : a < n) : b < n := by
  cases h with
  | refl => exact ha
  | step _ hn => exact hn.1
theorem Conn.symm {a b : Nat} (h : Conn n p q a b) (ha : a < n) : Conn n p q b a := by
  induction h with
  | refl => exact .refl
  | step h1 hn ih => exact (Conn.refl.step (hn.symm (h1.lt ha))).trans ih
theorem Conn.keep {α : Type} {f : Nat → α} (h : ∀ b c, b < n → Nb n p q b c → f b = f c) {a b : Nat} (ha : a < n) (hc : Conn n p q a b) : f a = f b := by
  induction hc with
  | refl => rfl
  | step h1 hn ih => exact ih.trans (h _ _ (h1.lt ha) hn)
theorem least_ex (P : Nat → Prop) : ∀ k, P k → ∃ m, m ≤ k ∧ P m ∧ ∀ j, j < m → ¬ P j := by
  intro k
  induction k using Nat.strongRecOn with
  | _ k ih =>
    intro hk
    by_cases h : ∃ j, j < k ∧ P j
    · obtain ⟨j, h1, h2⟩ := h
      obtain ⟨m, m1, m2, m3⟩ := ih j h1 h2
      exact ⟨m, by omega, m2, m3⟩
    · exact ⟨k, Nat.le_refl _, hk, fun j hj hp => h ⟨j, hj, hp⟩⟩
noncomputable def fstC (n p q k : Nat) : Nat := Classical.choose (least_ex (fun j => Conn n p q j k) k .refl)
theorem fstC_spec (n p q k : Nat) : fstC n p q k ≤ k ∧ Conn n p q (fstC n p q k) k ∧ ∀ j, j < fstC n p q k → ¬ Conn n p q j k := Classical.choose_spec (least_ex (fun j => Conn n p q j k) k .refl)
theorem fstC_le {j k : Nat} (h : Conn n p q j k) : fstC n p q k ≤ j := by
  by_cases hh : fstC n p q k ≤ j
  · exact hh
  · exact absurd h ((fstC_spec n p q k).2.2 j (by omega))
theorem fstC_eq {j k : Nat} (hj : j < n) (hk : k < n) : fstC n p q j = fstC n p q k ↔ Conn n p q j k := by
  obtain ⟨a1, a2, a3⟩ := fstC_spec n p q j
  obtain ⟨b1, b2, b3⟩ := fstC_spec n p q k
  constructor
  · intro h
    rw [h] at a2
    exact (a2.symm (by omega)).trans b2
  · intro h
    have := fstC_le (a2.trans h)
    have := fstC_le (b2.trans (h.symm hj))
    omega
theorem fstC_idem {k : Nat} (hk : k < n) : fstC n p q (fstC n p q k) = fstC n p q k := by
  obtain ⟨a1, a2, a3⟩ := fstC_spec n p q k
  exact (fstC_eq (by omega) hk).2 a2
open Classical in
noncomputable def rankC (n p q : Nat) : Nat → Nat
  | 0 => 0
  | i + 1 => rankC n p q i + (if fstC n p q i = i then 1 else 0)
theorem rankC_mono {i j : Nat} (h : i ≤ j) : rankC n p q i ≤ rankC n p q j := by
  induction h with
  | refl => exact Nat.le_refl _
  | step _ ih => rw [rankC]; omega
theorem rankC_lt {i j : Nat} (h : i < j) (hi : fstC n p q i = i) : rankC n p q i < rankC n p q j := by
  have := rankC_mono (n := n) (p := p) (q := q) (show i + 1 ≤ j from h)
  rw [rankC, if_pos hi] at this
  omega
theorem rankC_le (i : Nat) : rankC n p q i ≤ i := by
  induction i with
  | zero => simp [rankC]
  | succ i ih => rw [rankC]; split <;> omega
noncomputable def valC (n p q k : Nat) : Nat := 97 + rankC n p q (fstC n p q k)
theorem valC_eq {j k : Nat} (hj : j < n) (hk : k < n) : valC n p q j = valC n p q k ↔ Conn n p q j k := by
  rw [← fstC_eq hj hk]
  constructor
  · intro h
    have h1 := fstC_idem (p := p) (q := q) hj
    have h2 := fstC_idem (p := p) (q := q) hk
    unfold valC at h
    rcases Nat.lt_trichotomy (fstC n p q j) (fstC n p q k) with hh | hh | hh
    · have := rankC_lt hh h1; omega
    · exact hh
    · have := rankC_lt hh h2; omega
  · intro h; unfold valC; rw [h]
theorem valC_rng {k : Nat} (hk : k < n) : 97 ≤ valC n p q k ∧ valC n p q k < 97 + n := by
  have := rankC_le (n := n) (p := p) (q := q) (fstC n p q k)
  have := (fstC_spec n p q k).1
  unfold valC; omega
def en0 (o : List Int) (i : Nat) : Int := o.getD i 0
def zeros (o : List Int) : Nat := o.countP fun x => decide (x = 0)
theorem en0_get {o : List Int} {i : Nat} (h : i < o.length) : o[i]? = some (en0 o i) := by simp [en0, h]
theorem en0_set {o : List Int} {i j : Nat} {x : Int} (h : i < o.length) : en0 (o.set i x) j = if j = i then x else en0 o j := by
  unfold en0
  rw [List.getD_eq_getElem?_getD, List.getD_eq_getElem?_getD]
  by_cases hj : j = i
  · subst hj; rw [List.getElem?_set_self h, if_pos rfl]; rfl
  · rw [List.getElem?_set_ne (by omega), if_neg hj]
theorem zeros_set {x : Int} (hx : x ≠ 0) : ∀ {o : List Int} {i : Nat}, i < o.length → en0 o i = 0 → zeros (o.set i x) + 1 = zeros o := by
  intro o
  induction o with
  | nil => intro i h; simp at h
  | cons y o ih =>
    intro i h h0
    cases i with
    | zero =>
      simp [en0] at h0
      subst h0
      simp [zeros, hx]
    | succ i =>
      have := ih (i := i) (by simpa using h) (by simpa [en0] using h0)
      simp only [List.set_cons_succ, zeros, List.countP_cons] at this ⊢
      omega
theorem zeros_le : ∀ {o o' : List Int}, o.length = o'.length → (∀ j, en0 o j ≠ 0 → en0 o' j = en0 o j) → zeros o' ≤ zeros o := by
  intro o
  induction o with
  | nil => intro o' hl _; simp at hl; have : o' = [] := List.length_eq_zero_iff.1 hl.symm; subst this; exact Nat.le_refl _
  | cons y o ih =>
    intro o' hl h
    cases o' with
    | nil => simp at hl
    | cons y' o' =>
      have h1 := ih (o' := o') (by simpa using hl) (fun j hj => by
        have := h (j + 1) (by simpa [en0] using hj)
        simpa [en0] using this)
      have h0 := h 0
      simp only [en0, List.getD_cons_zero] at h0
      simp only [zeros, List.countP_cons] at h1 ⊢
      by_cases hy : y = 0
      · subst hy
        simp only [decide_true, if_true]
        split <;> omega
      · rw [h0 hy]
        simp [hy]; omega
structure WGood (n p q : Nat) (v : Int) (c : Nat) (o o' : List Int) : Prop where
  len : o'.length = o.length
  keep : ∀ j, en0 o j ≠ 0 → en0 o' j = en0 o j
  new : ∀ j, en0 o j = 0 → en0 o' j ≠ 0 → en0 o' j = v ∧ Conn n p q c j
  clos : ∀ j k, j < n → en0 o j = 0 → en0 o' j ≠ 0 → Nb n p q j k → en0 o' k ≠ 0
theorem WGood.refl {v : Int} {c : Nat} {o : List Int} : WGood n p q v c o o := ⟨rfl, fun _ _ => rfl, fun j h h' => absurd h h', fun j k _ h h' => absurd h h'⟩
theorem WGood.trans {v : Int} {c : Nat} {o o1 o2 : List Int} (h1 : WGood n p q v c o o1) (h2 : WGood n p q v c o1 o2) : WGood n p q v c o o2 := by
  refine ⟨h2.len.trans h1.len, fun j hj => ?_, fun j hj hj2 => ?_, fun j k hjn hj hj2 hk => ?_⟩
  · have := h1.keep j hj
    rw [h2.keep j (by rw [this]; exact hj), this]
  · by_cases h : en0 o1 j = 0
    · exact h2.new j h hj2
    · rw [h2.keep j h]; exact h1.new j hj h
  · by_cases h : en0 o1 j = 0
    · exact h2.clos j k hjn h hj2 hk
    · have := h1.clos j k hjn hj h hk
      rw [h2.keep k this]; exact this
theorem WGood.mono {v : Int} {c d : Nat} {o o' : List Int} (h : WGood n p q v d o o') (hc : Conn n p q c d) : WGood n p q v c o o' :=
  ⟨h.len, h.keep, fun j h1 h2 => ⟨(h.new j h1 h2).1, hc.trans (h.new j h1 h2).2⟩, h.clos⟩
def Named (n p q : Nat) (v : Int) (i : Int) (o o' : List Int) : Prop :=
  o'.length = o.length ∧ (¬ (0 ≤ i ∧ i < n) → o' = o) ∧ (∀ c : Nat, i = c → c < n → WGood n p q v c o o' ∧ en0 o' c ≠ 0)
theorem fs52 {N : Nat} {a b c : Int} : f52 N a b c = some (decide (a ≤ b ∧ b ≤ c)) := by
  unfold f52
  by_cases h : a ≤ b <;> simp [h]
theorem name_ok (hn : 1 ≤ n) (hn2 : n ≤ 24) (hp : p ≤ 24) (hq : q ≤ 24) {v : Int} (hv : v ≠ 0) :
    ∀ (N : Nat) (i : Int) (o : List Int), -100 ≤ i ∧ i ≤ 100 → o.length = n → zeros o + 8 ≤ N → ∃ o', f53 N i (n : Int) v (p : Int) (q : Int) o = some o' ∧ Named n p q v i o o' := by
  intro N
  induction N with
  | zero => intro i o _ _ h; omega
  | succ N ih =>
    intro i o hi hl hz
    rw [f53]
    unfold f53b
    rw [fs52, Option.bind_some, W_of (by omega) (by omega)]
    by_cases hr : 0 ≤ i ∧ i < n
    · rw [decide_eq_true (show (0 : Int) ≤ i ∧ i ≤ (n : Int) - 1 by omega)]
      obtain ⟨c, rfl⟩ : ∃ c : Nat, i = c := ⟨i.toNat, by omega⟩
      have hc : c < o.length := by omega
      simp only [Bool.not_true, cond_false]
      rw [ix_nat, en0_get hc]
      simp only [Option.bind_some]
      by_cases h0 : en0 o c = 0
      · simp only [h0, not_true, decide_false, cond_false]
        have hs : setx o (c : Int) v = some (o.set c v) := by
          unfold setx; rw [if_pos ⟨by omega, by omega⟩]; rfl
        rw [hs, Option.bind_some]
        have hz2 := zeros_set hv hc h0
        -- the four ways
        have step : ∀ (d : Int) (b : List Int), -24 ≤ d ∧ d ≤ 24 → b.length = n → zeros b ≤ zeros (o.set c v) → (0 ≤ (c : Int) + d → (c : Int) + d < n → ∀ e : Nat, (c : Int) + d = e → Nb n p q c e) →
            ∃ b', (f53 N (W ((c : Int) + d)) (n : Int) v (p : Int) (q : Int) b) = some b' ∧ keepL b b' = some b' ∧ b'.length = n ∧ zeros b' ≤ zeros (o.set c v) ∧ WGood n p q v c b b' ∧ (∀ e : Nat, (c : Int) + d = e → e < n → en0 b' e ≠ 0) := by
          intro d b hd hb hzb hnb
          rw [W_of (by omega) (by omega)]
          obtain ⟨b', e1, e2, e3, e4⟩ := ih ((c : Int) + d) b ⟨by omega, by omega⟩ hb (by omega)
          have hg : WGood n p q v c b b' := by
            by_cases hin : 0 ≤ (c : Int) + d ∧ (c : Int) + d < n
            · have := (e4 ((c : Int) + d).toNat (by omega) (by omega)).1
              exact this.mono (Conn.refl.step (hnb hin.1 hin.2 _ (by omega)))
            · rw [e3 hin]; exact WGood.refl
          refine ⟨b', e1, ?_, by omega, ?_, hg, fun e he hen => (e4 e he hen).2⟩
          · unfold keepL; rw [if_pos e2.symm]
          · exact Nat.le_trans (zeros_le e2.symm hg.keep) hzb
        have l0 : (o.set c v).length = n := by simp [hl]
        obtain ⟨b1, s1, t1, l1, z1, g1, m1⟩ := step (p : Int) (o.set c v) (by omega) l0 (Nat.le_refl _) (fun _ h e he => ⟨by omega, .inl (by omega)⟩)
        obtain ⟨b2, s2, t2, l2, z2, g2, m2⟩ := step (0 - (p : Int)) b1 (by omega) l1 z1 (fun _ h e he => ⟨by omega, .inr (.inl (by omega))⟩)
        obtain ⟨b3, s3, t3, l3, z3, g3, m3⟩ := step (q : Int) b2 (by omega) l2 z2 (fun _ h e he => ⟨by omega, .inr (.inr (.inl (by omega)))⟩)
        obtain ⟨b4, s4, t4, l4, z4, g4, m4⟩ := step (0 - (q : Int)) b3 (by omega) l3 z3 (fun _ h e he => ⟨by omega, .inr (.inr (.inr (by omega)))⟩)
        have wp : W (0 - (p : Int)) = 0 - (p : Int) := W_of (by omega) (by omega)
        have wq : W (0 - (q : Int)) = 0 - (q : Int) := W_of (by omega) (by omega)
        obtain ⟨A, hA⟩ : ∃ A, N = A + 1 := ⟨N - 1, by omega⟩
        obtain ⟨B, hB⟩ : ∃ B, A = B + 1 := ⟨A - 1, by omega⟩
        obtain ⟨C, hC⟩ : ∃ C, B = C + 1 := ⟨B - 1, by omega⟩
        obtain ⟨D, hD⟩ : ∃ D, C = D + 1 := ⟨C - 1, by omega⟩
        obtain ⟨E, hE⟩ : ∃ E, D = E + 1 := ⟨D - 1, by omega⟩
        have u : ∀ m (a : Int) (b : List Int), f53_3 (c : Int) (n : Int) v (p : Int) (q : Int) o (f53 N) (m + 1) a b = f53_3b (f53_3 (c : Int) (n : Int) v (p : Int) (q : Int) o (f53 N) m) (c : Int) (n : Int) v (p : Int) (q : Int) o (f53 N) a b := fun _ _ _ => rfl
        have a0 : ix [(p : Int), 0 - (p : Int), (q : Int), 0 - (q : Int)] 0 = some (p : Int) := rfl
        have a1 : ix [(p : Int), 0 - (p : Int), (q : Int), 0 - (q : Int)] 1 = some (0 - (p : Int)) := rfl
        have a2 : ix [(p : Int), 0 - (p : Int), (q : Int), 0 - (q : Int)] 2 = some (q : Int) := rfl
        have a3 : ix [(p : Int), 0 - (p : Int), (q : Int), 0 - (q : Int)] 3 = some (0 - (q : Int)) := rfl
        have w0 : W ((0 : Int) + 1) = 1 := by decide
        have w1 : W ((1 : Int) + 1) = 2 := by decide
        have w2 : W ((2 : Int) + 1) = 3 := by decide
        have w3 : W ((3 : Int) + 1) = 4 := by decide
        have c0 : decide ((0 : Int) < (List.length [(p : Int), 0 - (p : Int), (q : Int), 0 - (q : Int)] : Int)) = true := by simp
        have c1 : decide ((1 : Int) < (List.length [(p : Int), 0 - (p : Int), (q : Int), 0 - (q : Int)] : Int)) = true := by simp
        have c2 : decide ((2 : Int) < (List.length [(p : Int), 0 - (p : Int), (q : Int), 0 - (q : Int)] : Int)) = true := by simp
        have c3 : decide ((3 : Int) < (List.length [(p : Int), 0 - (p : Int), (q : Int), 0 - (q : Int)] : Int)) = true := by simp
        have c4 : decide ((4 : Int) < (List.length [(p : Int), 0 - (p : Int), (q : Int), 0 - (q : Int)] : Int)) = false := by simp
        have hk : keepL o b4 = some b4 := by unfold keepL; rw [if_pos (by omega)]
        refine ⟨b4, ?_, ?_⟩
        · have hf : f53_3 (c : Int) (n : Int) v (p : Int) (q : Int) o (f53 N) N 0 (o.set c v) = f53_3 (c : Int) (n : Int) v (p : Int) (q : Int) o (f53 N) (A + 1) 0 (o.set c v) := by rw [← hA]
          rw [hf, u]
          unfold f53_3b
          simp only [wp, wq, c0, a0, w0, cond_true, Option.bind_some, s1, t1]
          rw [hB, u]
          unfold f53_3b
          simp only [wp, wq, c1, a1, w1, cond_true, Option.bind_some, s2, t2]
          rw [hC, u]
          unfold f53_3b
          simp only [wp, wq, c2, a2, w2, cond_true, Option.bind_some, s3, t3]
          rw [hD, u]
          unfold f53_3b
          simp only [wp, wq, c3, a3, w3, cond_true, Option.bind_some, s4, t4]
          rw [hE, u]
          unfold f53_3b
          simp only [wp, wq, c4, cond_false, Option.bind_some, hk]
        · refine ⟨by omega, fun h => absurd hr h, fun c' hc' hcn => ?_⟩
          obtain rfl : c = c' := by omega
          have G := ((g1.trans g2).trans g3).trans g4
          have hcc : en0 (o.set c v) c = v := by rw [en0_set hc, if_pos rfl]
          have hc4 : en0 b4 c = v := by rw [G.keep c (by rw [hcc]; exact hv), hcc]
          refine ⟨⟨by omega, fun j hj => ?_, fun j hj hj2 => ?_, fun j k hjn hj hj2 hk => ?_⟩, by rw [hc4]; exact hv⟩
          · have hjc : j ≠ c := by rintro rfl; exact hj h0
            have : en0 (o.set c v) j = en0 o j := by rw [en0_set hc, if_neg hjc]
            rw [G.keep j (by rw [this]; exact hj), this]
          · by_cases hjc : j = c
            · subst hjc; exact ⟨hc4, .refl⟩
            · exact G.new j (by rw [en0_set hc, if_neg hjc]; exact hj) hj2
          · by_cases hjc : j = c
            · subst hjc
              have hkn := hk.1
              rcases hk.2 with h | h | h | h
              · have h5 := m1 k (by omega) hkn
                rw [(g2.trans g3 |>.trans g4).keep k h5]; exact h5
              · have h5 := m2 k (by omega) hkn
                rw [(g3.trans g4).keep k h5]; exact h5
              · have h5 := m3 k (by omega) hkn
                rw [g4.keep k h5]; exact h5
              · exact m4 k (by omega) hkn
            · exact G.clos j k hjn (by rw [en0_set hc, if_neg hjc]; exact hj) hj2 hk
      · simp only [h0, not_false_eq_true, decide_true, cond_true]
        refine ⟨o, rfl, rfl, fun _ => rfl, fun c' hc' _ => ?_⟩
        obtain rfl : c = c' := by omega
        exact ⟨WGood.refl, h0⟩
    · rw [decide_eq_false (show ¬ ((0 : Int) ≤ i ∧ i ≤ (n : Int) - 1) by omega)]
      exact ⟨o, rfl, rfl, fun _ => rfl, fun c hc hcn => absurd ⟨by omega, by omega⟩ hr⟩
end
end Go.Vc
namespace Go.Vc
open Go.Proofs
set_option linter.unusedVariables false
set_option linter.unnecessarySimpa false
set_option linter.unusedSimpArgs false
set_option linter.unusedSimpArgs false
section
variable {n p q : Nat}
noncomputable def partW (n p q i : Nat) : List Int := (List.range n).map fun k => if fstC n p q k < i then (valC n p q k : Int) else 0
theorem partW_len {i : Nat} : (partW n p q i).length = n := by simp [partW]
theorem partW_en {i k : Nat} (hk : k < n) : en0 (partW n p q i) k = if fstC n p q k < i then (valC n p q k : Int) else 0 := by
  have : (partW n p q i)[k]? = some (if fstC n p q k < i then (valC n p q k : Int) else 0) := by
    unfold partW
    rw [List.getElem?_map, List.getElem?_range hk]; rfl
  unfold en0
  rw [List.getD_eq_getElem?_getD, this]; rfl
theorem zeros_len (o : List Int) : zeros o ≤ o.length := List.countP_le_length
theorem named_next {i : Nat} (hi : i < n) (hf : fstC n p q i = i) {o' : List Int} (h : Named n p q ((97 + rankC n p q i : Nat) : Int) (i : Int) (partW n p q i) o') : o' = partW n p q (i + 1) := by
  obtain ⟨h1, h2, h3⟩ := h
  obtain ⟨g, hne⟩ := h3 i rfl hi
  rw [partW_len] at h1
  -- all that is connected is named
  have hall : ∀ k, Conn n p q i k → en0 o' k ≠ 0 := by
    intro k hk
    induction hk with
    | refl => exact hne
    | @step b c hb hn ih =>
      have hbn := hb.lt hi
      have hfb : fstC n p q b = i := by rw [← (fstC_eq hi hbn).2 hb, hf]
      exact g.clos b c hbn (by rw [partW_en hbn, if_neg (by omega)]) ih hn
  refine List.ext_getElem? fun k => ?_
  by_cases hk : k < n
  · rw [en0_get (by omega), en0_get (by rw [partW_len]; exact hk), partW_en hk]
    congr 1
    by_cases c1 : fstC n p q k < i
    · have e := partW_en (p := p) (q := q) (i := i) hk
      rw [if_pos c1] at e
      have hv := (valC_rng (p := p) (q := q) hk).1
      rw [g.keep k (by rw [e]; omega), e, if_pos (by omega)]
    · have e := partW_en (p := p) (q := q) (i := i) hk
      rw [if_neg c1] at e
      by_cases c2 : fstC n p q k = i
      · have hc : Conn n p q i k := by rw [← c2]; exact (fstC_spec n p q k).2.1
        rw [(g.new k e (hall k hc)).1, if_pos (by omega)]
        unfold valC; rw [c2]
      · rw [if_neg (by omega)]
        by_cases c3 : en0 o' k = 0
        · exact c3
        · have := fstC_le (g.new k e c3).2
          omega
  · rw [List.getElem?_eq_none (by omega), List.getElem?_eq_none (by rw [partW_len]; omega)]
theorem part_same {i : Nat} (hi : i < n) (hf : fstC n p q i ≠ i) : partW n p q i = partW n p q (i + 1) := by
  unfold partW
  refine List.map_congr_left fun k hk => ?_
  have hk := List.mem_range.1 hk
  by_cases c : fstC n p q k = i
  · have := fstC_idem (p := p) (q := q) hk
    rw [c] at this
    exact absurd this hf
  · by_cases c1 : fstC n p q k < i
    · rw [if_pos c1, if_pos (by omega)]
    · rw [if_neg c1, if_neg (by omega)]
noncomputable def wideN (n p q : Nat) : List UInt8 := (List.range n).map fun k => UInt8.ofNat (valC n p q k)
theorem wideN_len : (wideN n p q).length = n := by simp [wideN]
theorem wideN_get {k : Nat} (hk : k < n) : (wideN n p q)[k]? = some (UInt8.ofNat (valC n p q k)) := by
  unfold wideN
  rw [List.getElem?_map, List.getElem?_range hk]; rfl
theorem ofNat_val (hn : n ≤ 24) {j k : Nat} (hj : j < n) (hk : k < n) : UInt8.ofNat (valC n p q j) = UInt8.ofNat (valC n p q k) ↔ Conn n p q j k := by
  rw [← valC_eq hj hk]
  have h1 := valC_rng (p := p) (q := q) hj
  have h2 := valC_rng (p := p) (q := q) hk
  constructor
  · intro h
    have := congrArg UInt8.toNat h
    rw [UInt8.toNat_ofNat', UInt8.toNat_ofNat', Nat.mod_eq_of_lt (show valC n p q j < 2 ^ 8 by omega), Nat.mod_eq_of_lt (show valC n p q k < 2 ^ 8 by omega)] at this
    exact this
  · intro h; rw [h]
theorem wide_loop {N : Nat} {x4 : List Int} (hn : 1 ≤ n) (hn2 : n ≤ 24) (hp : p ≤ 24) (hq : q ≤ 24) (hx : x4.length = n) (hN : 60 ≤ N) :
    ∀ (m i : Nat), i ≤ n → n - i < m → f25_8 (p : Int) (q : Int) (n : Int) N x4 f25_c14 m (i : Int) (partW n p q i) ((97 + rankC n p q i : Nat) : Int) = some (strC (wideN n p q), 0) := by
  intro m
  induction m with
  | zero => intro i _ h; omega
  | succ m ih =>
    intro i hi hm
    unfold f25_8 f25_8b
    rw [hx]
    by_cases h : i < n
    · simp only [show (i : Int) < (n : Int) by omega, decide_true, cond_true]
      rw [ix_nat, en0_get (by rw [partW_len]; exact h), partW_en h]
      simp only [Option.bind_some]
      have hv := (valC_rng (p := p) (q := q) h).1
      have hf := (fstC_spec n p q i).1
      by_cases c : fstC n p q i = i
      · rw [if_neg (by omega)]
        simp only [decide_true, cond_true]
        have hz := zeros_len (partW n p q i)
        rw [partW_len] at hz
        obtain ⟨o', e1, e2⟩ := name_ok hn hn2 hp hq (v := ((97 + rankC n p q i : Nat) : Int)) (by omega) N (i : Int) (partW n p q i) (by omega) partW_len (by omega)
        rw [e1]
        simp only [Option.bind_some]
        have hk : keepL (partW n p q i) o' = some o' := by unfold keepL; rw [if_pos e2.1.symm]
        rw [hk, named_next h c e2]
        simp only [Option.bind_some]
        have hr := rankC_le (n := n) (p := p) (q := q) i
        have hw : Wk .u8 (((97 + rankC n p q i : Nat) : Int) + (1 : Int)) = ((97 + rankC n p q (i + 1) : Nat) : Int) := by
          rw [rankC, if_pos c, Wk_of (by simp [IntKind.min, IntKind.max, IntKind.signed, IntKind.bits]; omega)]; omega
        rw [hw, W_nat (by omega)]
        exact ih (i + 1) (by omega) (by omega)
      · rw [if_pos (by omega)]
        have : ¬ (valC n p q i : Int) = 0 := by omega
        simp only [this, decide_false, cond_false]
        rw [W_nat (by omega), part_same h c]
        have hr : rankC n p q i = rankC n p q (i + 1) := by rw [rankC, if_neg c]; omega
        rw [hr]
        exact ih (i + 1) (by omega) (by omega)
    · have : i = n := by omega
      subst this
      simp only [Int.lt_irrefl, decide_false, cond_false]
      unfold f25_c14
      have hs : strOf (partW i p q i) = some (strC (wideN i p q)) := by
        unfold strOf
        rw [if_pos (by rw [partW_len]; simp [maxLen]; omega)]
        unfold strC
        congr 3
        unfold partW wideN
        rw [List.map_map]
        refine List.map_congr_left fun k hk => ?_
        have hk := List.mem_range.1 hk
        have := (fstC_spec i p q k).1
        simp only [Function.comp]
        rw [if_pos (by omega), Int.toNat_natCast]
      rw [hs]; rfl
end
theorem f25_eq {N : Nat} {a b c : Int} (hN : 60 ≤ N) : f25 N a b c = some (if (1 ≤ c ∧ c ≤ 24) ∧ (1 ≤ a ∧ a ≤ c) ∧ (1 ≤ b ∧ b ≤ c) then (strC (wideN c.toNat a.toNat b.toNat), 0) else (emptyS, 3)) := by
  unfold f25
  rw [fs52, fs52, fs52]
  simp only [Option.bind_some]
  by_cases h1 : 1 ≤ c ∧ c ≤ 24
  · by_cases h2 : 1 ≤ a ∧ a ≤ c
    · by_cases h3 : 1 ≤ b ∧ b ≤ c
      · rw [if_pos ⟨h1, h2, h3⟩, decide_eq_true h1, decide_eq_true h2, decide_eq_true h3]
        obtain ⟨n, rfl⟩ : ∃ n : Nat, c = n := ⟨c.toNat, by omega⟩
        obtain ⟨p, rfl⟩ : ∃ n : Nat, a = n := ⟨a.toNat, by omega⟩
        obtain ⟨q, rfl⟩ : ∃ n : Nat, b = n := ⟨b.toNat, by omega⟩
        have hm : mkS 1 (0 : Int) (n : Int) (n : Int) = some (List.replicate n 0) := by
          unfold mkS; rw [if_pos ⟨by omega, by omega, by omega⟩]; rfl
        have hrep : List.replicate n (0 : Int) = partW n p q 0 := by
          refine List.ext_getElem? fun k => ?_
          by_cases hk : k < n
          · rw [en0_get (o := partW n p q 0) (by rw [partW_len]; exact hk), partW_en hk, if_neg (by omega), List.getElem?_replicate, if_pos hk]
          · rw [List.getElem?_eq_none (by simp; omega), List.getElem?_eq_none (by rw [partW_len]; omega)]
        simp only [Bool.not_true, cond_false, hm, Option.bind_some, joinK, Int.toNat_natCast]
        have := wide_loop (N := N) (n := n) (p := p) (q := q) (x4 := List.replicate n 0) (by omega) (by omega) (by omega) (by omega) (by simp) hN N 0 (by omega) (by omega)
        rw [← hrep] at this
        exact this
      · rw [if_neg (fun h => h3 h.2.2), decide_eq_true h1, decide_eq_true h2, decide_eq_false h3]; rfl
    · rw [if_neg (fun h => h2 h.2.1), decide_eq_true h1, decide_eq_false h2]; rfl
  · rw [if_neg (fun h => h1 h.1), decide_eq_false h1]; rfl
end Go.Vc
namespace Go.Vc
open Go.Proofs
set_option maxRecDepth 100000
end Go.Vc
namespace Go.Vc
open Go.Proofs
set_option linter.unusedVariables false
set_option linter.unnecessarySimpa false
set_option linter.unusedSimpArgs false
end Go.Vc
namespace Go.Vc
open Go.Proofs
set_option linter.unusedVariables false
set_option linter.unnecessarySimpa false
set_option linter.unusedSimpArgs false
set_option linter.unusedSimpArgs false
theorem per_more {l : List UInt8} {p q : Nat} (hp : p ≤ l.length) (h1 : isP l p = true) (h2 : isP (l.take (l.length - p)) q = true) (hq : q ≤ l.length - p) : isP l (p + q) = true := by
  rw [isP_per] at h1 h2 ⊢
  intro i hi
  have a := h2 i (by simp; omega)
  simp only at a
  rw [List.getElem?_take_of_lt (by omega), List.getElem?_take_of_lt (by omega)] at a
  have b := h1 (i + q) (by omega)
  simp only at b ⊢
  rw [a, b]; congr 1; omega
theorem perN_mem {l : List UInt8} {p : Nat} : p ∈ perN l ↔ (1 ≤ p ∧ p ≤ l.length) ∧ isP l p = true := by
  unfold perN
  rw [List.mem_filter, List.mem_range'_1]
  constructor
  · rintro ⟨a, b⟩; exact ⟨by omega, b⟩
  · rintro ⟨a, b⟩; exact ⟨by omega, b⟩
theorem first_per {l : List UInt8} (h : l ≠ []) : ∃ p, (perN l)[0]? = some p ∧ 1 ≤ p ∧ p ≤ l.length ∧ isP l p = true ∧ ∀ q, 1 ≤ q → q < p → isP l q = false := by
  have h0 := List.length_pos_iff.2 h
  have hm : l.length ∈ perN l := perN_mem.2 ⟨⟨by omega, Nat.le_refl _⟩, isP_len⟩
  cases hp : perN l with
  | nil => rw [hp] at hm; cases hm
  | cons p r =>
    have hp' : p ∈ perN l := by rw [hp]; simp
    obtain ⟨⟨a, b⟩, c⟩ := perN_mem.1 hp'
    refine ⟨p, rfl, a, b, c, fun q h1 h2 => ?_⟩
    cases hq : isP l q with
    | false => rfl
    | true =>
      have hqm : q ∈ perN l := perN_mem.2 ⟨⟨h1, by omega⟩, hq⟩
      have hs : (perN l).Pairwise (· < ·) := List.Pairwise.filter _ List.pairwise_lt_range'
      rw [hp] at hqm hs
      rcases List.mem_cons.1 hqm with rfl | hqm
      · omega
      · have := (List.pairwise_cons.1 hs).1 q hqm
        omega
end Go.Vc
namespace Go.Vc
open Go.Proofs
set_option linter.unusedVariables false
set_option linter.unnecessarySimpa false
set_option linter.unusedSimpArgs false
set_option linter.unusedSimpArgs false
set_option maxRecDepth 1000000
theorem take_per {l : List UInt8} {p d : Nat} (hp : p ≤ l.length) (h : isP l p = true) (hd : p + d ≤ l.length) : isP (l.take (l.length - p)) d = isP l (p + d) := by
  have key : isP (l.take (l.length - p)) d = true ↔ isP l (p + d) = true := by
    constructor
    · intro h2; exact per_more hp h h2 (by omega)
    · intro h2
      rw [isP_per] at h h2 ⊢
      intro i hi
      rw [List.length_take] at hi
      simp only
      rw [List.getElem?_take_of_lt (by omega), List.getElem?_take_of_lt (by omega)]
      have e1 := h2 i (by omega)
      have e2 := h (i + d) (by omega)
      simp only at e1 e2
      rw [e1, e2]; congr 1; omega
  cases h2 : isP l (p + d) with
  | true => exact key.2 h2
  | false =>
    rw [Bool.eq_false_iff]
    intro hh
    rw [key.1 hh] at h2; cases h2
theorem perN_split {l : List UInt8} {p : Nat} (h1 : 1 ≤ p) (hp : p ≤ l.length) (h : isP l p = true) (hmin : ∀ q, 1 ≤ q → q < p → isP l q = false) :
    perN l = p :: (perN (l.take (l.length - p))).map fun d => p + d := by
  unfold perN
  have hlen : (l.take (l.length - p)).length = l.length - p := by simp
  rw [hlen]
  have e : List.range' 1 l.length = List.range' 1 (p - 1) ++ (p :: List.range' (p + 1) (l.length - p)) := by
    have h := List.range'_append_1 (s := 1) (m := p - 1) (n := l.length - p + 1)
    rw [show 1 + (p - 1) = p by omega, show p - 1 + (l.length - p + 1) = l.length by omega, List.range'_succ] at h
    exact h.symm
  rw [e, List.filter_append, List.filter_cons, if_pos h]
  have e1 : (List.range' 1 (p - 1)).filter (isP l) = [] := by
    rw [List.filter_eq_nil_iff]
    intro x hx
    rw [List.mem_range'_1] at hx
    rw [hmin x hx.1 (by omega)]; simp
  rw [e1, List.nil_append]
  congr 1
  have e2 : List.range' (p + 1) (l.length - p) = (List.range' 1 (l.length - p)).map fun d => p + d := by
    rw [List.map_add_range']
  rw [e2, List.filter_map]
  congr 1
  refine List.filter_congr fun d hd => ?_
  rw [List.mem_range'_1] at hd
  simp only [Function.comp]
  exact (take_per hp h (by omega)).symm
def okS (n p : Nat) (Q : List Nat) : Bool := decide (n < 2 * p) || (Q.any (fun d => Nat.beq d p) && Q.all fun d => decide (p ≤ d) || decide (n - p + Nat.gcd p d < p + d))
def setsP : Nat → List (List (List Nat))
  | 0 => [[[]]]
  | n + 1 => (setsP n) ++ [(List.range' 1 (n + 1)).flatMap fun p => (((setsP n).getD (n + 1 - p) []).filter (okS (n + 1) p)).map fun Q => p :: Q.map fun d => p + d]
theorem setsP_len : ∀ n, (setsP n).length = n + 1 := by
  intro n
  induction n with
  | zero => rfl
  | succ n ih => simp [setsP, ih]
theorem setsP_get : ∀ {n m : Nat}, m ≤ n → (setsP n).getD m [] = (setsP m).getD m [] := by
  intro n
  induction n with
  | zero => intro m h; have : m = 0 := by omega
            subst this; rfl
  | succ n ih =>
    intro m h
    by_cases hm : m = n + 1
    · subst hm; rfl
    · have := setsP_len n
      have e : (setsP (n + 1)).getD m [] = (setsP n).getD m [] := by
        rw [setsP, List.getD_eq_getElem?_getD, List.getD_eq_getElem?_getD, List.getElem?_append_left (by omega)]
      rw [e]; exact ih (by omega)
theorem perN_nil : perN [] = [] := rfl
theorem perN_sets : ∀ (n : Nat) (l : List UInt8), l.length = n → perN l ∈ (setsP n).getD n [] := by
  intro n
  induction n using Nat.strongRecOn with
  | _ n ih =>
    intro l hl
    cases n with
    | zero =>
      have : l = [] := List.length_eq_zero_iff.1 hl
      subst this
      rw [perN_nil]
      simp [setsP]
    | succ n =>
      have hne : l ≠ [] := by rintro rfl; simp at hl
      obtain ⟨p, p0, p1, p2, p3, p4⟩ := first_per hne
      have hs := perN_split p1 p2 p3 p4
      have hlen : (l.take (l.length - p)).length = n + 1 - p := by simp; omega
      have hq := ih (n + 1 - p) (by omega) _ hlen
      have hg := setsP_len n
      rw [setsP, List.getD_eq_getElem?_getD, List.getElem?_append_right (by omega), hg, Nat.sub_self]
      simp only [List.getElem?_cons_zero, Option.getD_some]
      rw [List.mem_flatMap]
      refine ⟨p, by rw [List.mem_range'_1]; omega, ?_⟩
      rw [hs, List.mem_map]
      refine ⟨perN (l.take (l.length - p)), ?_, rfl⟩
      rw [List.mem_filter, setsP_get (by omega)]
      refine ⟨hq, ?_⟩
      unfold okS
      by_cases h2 : n + 1 < 2 * p
      · rw [decide_eq_true h2]; rfl
      · rw [decide_eq_false h2, Bool.false_or, Bool.and_eq_true]
        have hper := isP_per.1 p3
        have hu : ∀ d, isP (l.take (l.length - p)) d = true → Per (fun i => l[i]?) (l.length - p) d := by
          intro d hd i hi
          have := isP_per.1 hd i (by rw [hlen]; omega)
          simp only at this
          rw [List.getElem?_take_of_lt (by omega), List.getElem?_take_of_lt (by omega)] at this
          exact this
        constructor
        · rw [List.any_eq_true]
          refine ⟨p, perN_mem.2 ⟨⟨p1, by omega⟩, ?_⟩, Nat.beq_refl p⟩
          rw [isP_per]
          intro i hi
          rw [hlen] at hi
          simp only
          rw [List.getElem?_take_of_lt (by omega), List.getElem?_take_of_lt (by omega)]
          exact hper i (by omega)
        · rw [List.all_eq_true]
          intro d hd
          obtain ⟨⟨d1, d2⟩, d3⟩ := perN_mem.1 hd
          by_cases hdp : p ≤ d
          · rw [decide_eq_true hdp]; rfl
          · rw [decide_eq_false hdp, Bool.false_or]
            refine decide_eq_true ?_
            by_cases hlt : n + 1 - p + Nat.gcd p d < p + d
            · exact hlt
            · exfalso
              have hg1 : 1 ≤ Nat.gcd p d := Nat.gcd_pos_of_pos_left _ p1
              have hg2 : Nat.gcd p d ≤ d := Nat.gcd_le_right _ d1
              have := fine_wilf (p + d) (l.length - p) p d (Nat.le_refl _) p1 d1 (by omega) (hper.less (by omega)) (hu d d3)
              have hgr := Per.grow hg1 (Nat.gcd_dvd_left _ _) p1 (by omega) hper this
              have := p4 _ hg1 (by omega)
              rw [isP_per.2 hgr] at this
              cases this
def binW : Nat → Nat → List UInt8
  | 0, _ => []
  | n + 1, x => (if x / 2 ^ n % 2 = 1 then 98 else 97) :: binW n x
theorem binW_len : ∀ {n x : Nat}, (binW n x).length = n := by
  intro n
  induction n with
  | zero => intro x; rfl
  | succ n ih => intro x; simp [binW, ih]
theorem binW_get : ∀ {n x i : Nat}, i < n → (binW n x)[i]? = some (if x / 2 ^ (n - 1 - i) % 2 = 1 then 98 else 97) := by
  intro n
  induction n with
  | zero => intro x i h; omega
  | succ n ih =>
    intro x i h
    cases i with
    | zero => simp [binW]
    | succ i =>
      rw [binW, List.getElem?_cons_succ, ih (by omega)]
      rw [show n + 1 - 1 - (i + 1) = n - 1 - i by omega]
def wit : List (List Nat) := [[0], [0], [0, 1], [0, 2, 1], [0, 5, 2, 1], [0, 10, 4, 9, 2, 1], [0, 21, 18, 9, 4, 17, 2, 1], [0, 42, 18, 8, 34, 17, 4, 33, 2, 1], [0, 85, 36, 73, 34, 17, 8, 66, 33, 4, 65, 2, 1], [0, 170, 146, 73, 68, 34, 16, 165, 66, 33, 8, 130, 65, 4, 129, 2, 1], [0, 341, 146, 68, 273, 330, 132, 297, 66, 33, 16, 325, 130, 65, 8, 258, 129, 4, 257, 2, 1], [0, 682, 292, 585, 136, 546, 273, 594, 132, 66, 32, 650, 260, 617, 130, 65, 16, 645, 258, 129, 8, 514, 257, 4, 513, 2, 1], [0, 1365, 1170, 585, 546, 273, 264, 132, 1057, 260, 1105, 130, 65, 32, 1290, 516, 1161, 258, 129, 16, 1285, 514, 257, 8, 1026, 513, 4, 1025, 2, 1], [0, 2730, 1170, 1092, 546, 264, 2114, 1057, 520, 2210, 260, 130, 64, 2709, 2322, 1161, 516, 2193, 258, 129, 32, 2570, 1028, 2313, 514, 257, 16, 2565, 1026, 513, 8, 2050, 1025, 4, 2049, 2, 1], [0, 5461, 2340, 4681, 1092, 4369, 528, 5285, 2114, 1057, 520, 260, 4161, 5418, 2322, 1032, 4386, 2193, 516, 4257, 258, 129, 64, 5397, 4626, 2313, 1028, 4433, 514, 257, 32, 5130, 2052, 4617, 1026, 513, 16, 5125, 2050, 1025, 8, 4098, 2049, 4, 4097, 2, 1]]
theorem wit_ok : ((List.range 15).all fun n => ((setsP 14).getD n []).all fun Q => (wit.getD n []).any fun x => decide (x < 2 ^ n) && decide (perN (binW n x) = Q)) = true := by decide +kernel
theorem bin_ex {l : List UInt8} (h : l.length ≤ 14) : ∃ x, x < 2 ^ l.length ∧ perN (binW l.length x) = perN l := by
  have hs := perN_sets l.length l rfl
  rw [← setsP_get h] at hs
  have hw := List.all_eq_true.1 wit_ok l.length (List.mem_range.2 (by omega))
  have hq := List.all_eq_true.1 hw _ hs
  obtain ⟨x, _, hx⟩ := List.any_eq_true.1 hq
  rw [Bool.and_eq_true] at hx
  exact ⟨x, of_decide_eq_true hx.1, of_decide_eq_true hx.2⟩
theorem plain_ex {l : List UInt8} (h : l.length ≤ 14) : ∃ x, (x < 2 ^ l.length ∧ perN (binW l.length x) = perN l) ∧ ∀ y, y < x → perN (binW l.length y) ≠ perN l := by
  obtain ⟨x, h1, h2⟩ := bin_ex h
  have : ∀ m, perN (binW l.length m) = perN l → ∃ k, k ≤ m ∧ perN (binW l.length k) = perN l ∧ ∀ y, y < k → perN (binW l.length y) ≠ perN l := by
    intro m
    induction m using Nat.strongRecOn with
    | _ m ih =>
      intro hm
      by_cases hh : ∃ y, y < m ∧ perN (binW l.length y) = perN l
      · obtain ⟨y, y1, y2⟩ := hh
        obtain ⟨k, k1, k2, k3⟩ := ih y y1 y2
        exact ⟨k, by omega, k2, k3⟩
      · exact ⟨m, Nat.le_refl _, hm, fun y hy he => hh ⟨y, hy, he⟩⟩
  obtain ⟨k, k1, k2, k3⟩ := this x h2
  exact ⟨k, ⟨by omega, k2⟩, k3⟩
end Go.Vc
namespace Go.Vc
open Go.Proofs
set_option linter.unusedVariables false
set_option linter.unnecessarySimpa false
set_option linter.unusedSimpArgs false
set_option linter.unusedSimpArgs false
set_option maxRecDepth 100000
theorem bit_and {m : Nat} (h : m < 4611686018427387904) : bitsI .and .i64 (m : Int) (1 : Int) = ((m % 2 : Nat) : Int) := by
  have e : (BitVec.ofInt 64 (m : Int) &&& BitVec.ofInt 64 1).toNat = m % 2 := by
    rw [BitVec.toNat_and, BitVec.ofInt_natCast, show (1 : Int) = ((1 : Nat) : Int) from rfl, BitVec.ofInt_natCast, BitVec.toNat_ofNat, BitVec.toNat_ofNat, Nat.mod_eq_of_lt (show m < 2 ^ 64 by omega), Nat.mod_eq_of_lt (show 1 < 2 ^ 64 by omega), Nat.and_one_is_mod]
  have e2 : bitsI .and .i64 (m : Int) (1 : Int) = IntKind.i64.wrap ((m % 2 : Nat) : Int) := congrArg (fun k : Nat => IntKind.i64.wrap (k : Int)) e
  rw [e2]
  exact wrap_id (by have := Nat.mod_lt m (show 2 > 0 by omega); simp [IntKind.min, IntKind.max, IntKind.signed, IntKind.bits]; omega)
theorem bit_shift {x i : Nat} (hi : i ≤ 60) (hx : x < 1000000) : bitsI .and .i64 (Int.fdiv (x : Int) (2 ^ (min (Int.toNat (i : Int)) 64))) (1 : Int) = ((x / 2 ^ i % 2 : Nat) : Int) := by
  rw [Int.toNat_natCast, show min i 64 = i by omega]
  have e : Int.fdiv (x : Int) (2 ^ i) = ((x / 2 ^ i : Nat) : Int) := by
    have : (2 : Int) ^ i = ((2 ^ i : Nat) : Int) := by simp
    rw [this, Int.fdiv_eq_ediv_of_nonneg _ (Int.natCast_nonneg _)]; rfl
  rw [e, bit_and (by have := Nat.div_le_self x (2 ^ i); omega)]
def bitV (n x j : Nat) : Nat := 97 + x / 2 ^ (n - 1 - j) % 2
theorem wrap_bit {x i : Nat} (hi : i ≤ 60) (hx : x < 1000000) : Wk .u8 (W ((97 : Int) + (bitsI .and .i64 (Int.fdiv (x : Int) (2 ^ (min (Int.toNat (i : Int)) 64))) (1 : Int)))) = ((97 + x / 2 ^ i % 2 : Nat) : Int) := by
  rw [bit_shift hi hx]
  have := Nat.mod_lt (x / 2 ^ i) (show 2 > 0 by omega)
  generalize x / 2 ^ i % 2 = r at *
  rw [W_of (by omega) (by omega), Wk_of (by simp [IntKind.min, IntKind.max, IntKind.signed, IntKind.bits]; omega)]; omega
def fill (n x : Nat) (P : Nat → Bool) : List Int := (List.range n).map fun j => if P j = true then (bitV n x j : Int) else 0
theorem fill_len {n x : Nat} {P : Nat → Bool} : (fill n x P).length = n := by simp [fill]
theorem fill_get {n x j : Nat} {P : Nat → Bool} (h : j < n) : (fill n x P)[j]? = some (if P j = true then (bitV n x j : Int) else 0) := by
  unfold fill
  rw [List.getElem?_map, List.getElem?_range h]; rfl
theorem fill_set {n x j : Nat} {P Q : Nat → Bool} (h : j < n) (hQ : ∀ i, i < n → Q i = (decide (i = j) || P i)) : (fill n x P).set j (bitV n x j : Int) = fill n x Q := by
  refine List.ext_getElem? fun i => ?_
  by_cases hi : i < n
  · rw [fill_get hi, hQ i hi]
    by_cases hij : i = j
    · subst hij
      rw [List.getElem?_set_self (by rw [fill_len]; exact h)]; simp
    · rw [List.getElem?_set_ne (by omega), fill_get hi]; simp [hij]
  · rw [List.getElem?_eq_none (by simp [fill_len]; omega), List.getElem?_eq_none (by rw [fill_len]; omega)]
theorem fill_none {n x : Nat} : List.replicate n (0 : Int) = fill n x fun _ => false := by
  refine List.ext_getElem? fun i => ?_
  by_cases hi : i < n
  · rw [fill_get hi, List.getElem?_replicate, if_pos hi]; rfl
  · rw [List.getElem?_eq_none (by simp; omega), List.getElem?_eq_none (by rw [fill_len]; omega)]
theorem fillB_all {n x : Nat} {P : Nat → Bool} (hn : n ≤ 100) (h : ∀ i, i < n → P i = true) : strOf (fill n x P) = some (strC (binW n x)) := by
  unfold strOf
  rw [if_pos (by rw [fill_len]; simp [maxLen]; omega)]
  show some (strC _) = _
  congr 2
  refine List.ext_getElem? fun i => ?_
  by_cases hi : i < n
  · rw [List.getElem?_map, fill_get hi, binW_get hi, h i hi]
    simp only [if_true, Option.map_some, Int.toNat_natCast, Option.some.injEq]
    unfold bitV
    rcases (by omega : x / 2 ^ (n - 1 - i) % 2 = 0 ∨ x / 2 ^ (n - 1 - i) % 2 = 1) with h | h <;> rw [h] <;> decide
  · rw [List.getElem?_eq_none (by simp [fill_len]; omega), List.getElem?_eq_none (by rw [binW_len]; omega)]
theorem pow_shift {n : Nat} (h : n ≤ 20) : W ((1 : Int) * 2 ^ (min (Int.toNat (n : Int)) 64)) = ((2 ^ n : Nat) : Int) := by
  rw [Int.toNat_natCast, show min n 64 = n by omega, Int.one_mul]
  have e : (2 : Int) ^ n = ((2 ^ n : Nat) : Int) := by simp
  have hp : 2 ^ n ≤ 2 ^ 20 := Nat.pow_le_pow_right (by omega) h
  rw [e]
  generalize 2 ^ n = m at *
  exact W_of (by omega) (by omega)
theorem mkS_fill {n x : Nat} (h : n ≤ 100) : mkS 1 (0 : Int) (n : Int) (n : Int) = some (fill n x fun _ => false) := by
  unfold mkS
  rw [if_pos ⟨by omega, by omega, by omega⟩, Int.toNat_natCast, fill_none]
theorem f55_eq {a b : List Int} {N : Nat} (ha : a.length ≤ 1000) (hN : a.length < N) : f55 N a b = some (decide (a = b)) := by
  unfold f55
  by_cases h : a.length = b.length
  · simp only [h, not_true, decide_false, cond_false, joinK]
    rw [loop_ex0 (F := f55_4 a b f55_c9) (k0 := f55_c9) (e := some false) (p := fun i => ∃ (h1 : i < a.length) (h2 : i < b.length), a[i] ≠ b[i]) a.length]
    · by_cases hx : ∃ j, j < a.length ∧ ∃ (h1 : j < a.length) (h2 : j < b.length), a[j] ≠ b[j]
      · rw [if_pos hx]
        obtain ⟨j, _, h1, h2, h3⟩ := hx
        rw [decide_eq_false]
        rintro rfl; exact h3 rfl
      · rw [if_neg hx, decide_eq_true]; rfl
        refine List.ext_getElem h fun i h1 h2 => ?_
        by_cases he : a[i] = b[i]
        · exact he
        · exact absurd ⟨i, h1, h1, h2, he⟩ hx
    · intro n i hi
      conv => lhs; unfold f55_4 f55_4b
      simp only [show (i : Int) < (a.length : Int) by omega, decide_true, cond_true, ix_get hi, ix_get (show i < b.length by omega), Option.bind_some]
      rw [W_nat (by omega)]
      by_cases he : a[i] = b[i]
      · rw [if_neg (by rintro ⟨_, _, h⟩; exact h he)]; simp [he]
      · rw [if_pos ⟨hi, by omega, he⟩]; simp [he]
    · intro n
      conv => lhs; unfold f55_4 f55_4b
      simp
    · exact hN
  · have : ¬ (a.length : Int) = (b.length : Int) := by omega
    simp only [this, not_false_eq_true, decide_true, cond_true]
    rw [decide_eq_false]
    rintro rfl; exact h rfl
theorem f27_bits {l : List UInt8} {x2 : List Int} {x : Nat} {x3 : List Int} {k2 : List Int → Option (ByteArray × Int)} (hl : l.length ≤ 14) (hx : x < 1000000) (hx3 : x3.length = l.length) :
    ∀ (m i : Nat), i ≤ l.length → l.length - i < m → f27_12 (strC l) x2 (x : Int) x3 k2 m (fill l.length x fun j => decide (l.length - i ≤ j)) (i : Int) = k2 (fill l.length x fun j => decide (l.length - l.length ≤ j)) := by
  intro m
  induction m with
  | zero => intro i _ h; omega
  | succ m ih =>
    intro i hi hm
    unfold f27_12 f27_12b
    rw [hx3, fill_len]
    by_cases h : i < l.length
    · have hc : chk (decide (0 ≤ (i : Int))) = some () := by rw [decide_eq_true (by omega)]; rfl
      simp only [show (i : Int) < (l.length : Int) by omega, decide_true, cond_true, hc, Option.bind_some]
      have hw : W (W ((l.length : Int) - 1) - (i : Int)) = ((l.length - 1 - i : Nat) : Int) := by
        rw [W_of (n := (l.length : Int) - 1) (by omega) (by omega), W_of (by omega) (by omega)]; omega
      rw [hw, ix_nat, fill_get (by omega)]
      simp only [Option.bind_some]
      rw [wrap_bit (by omega) hx]
      have hs : setx (fill l.length x fun j => decide (l.length - i ≤ j)) ((l.length - 1 - i : Nat) : Int) ((97 + x / 2 ^ i % 2 : Nat) : Int) = some (fill l.length x fun j => decide (l.length - (i + 1) ≤ j)) := by
        unfold setx
        rw [if_pos ⟨by omega, by rw [fill_len]; omega⟩, Int.toNat_natCast]
        congr 1
        have hb : 97 + x / 2 ^ i % 2 = bitV l.length x (l.length - 1 - i) := by
          unfold bitV
          rw [show l.length - 1 - (l.length - 1 - i) = i by omega]
        rw [hb]
        refine fill_set (by omega) fun j hj => ?_
        by_cases hji : j = l.length - 1 - i
        · rw [decide_eq_true hji, decide_eq_true (by omega)]; rfl
        · rw [decide_eq_false hji, Bool.false_or]
          exact decide_eq_decide.2 ⟨fun h => by omega, fun h => by omega⟩
      rw [hs, Option.bind_some, W_nat (by omega)]
      exact ih (i + 1) (by omega) (by omega)
    · have : i = l.length := by omega
      subst this
      simp only [Int.lt_irrefl, decide_false, cond_false]
noncomputable def plainX (l : List UInt8) (h : l.length ≤ 14) : Nat := Classical.choose (plain_ex h)
theorem plainX_spec (l : List UInt8) (h : l.length ≤ 14) : (plainX l h < 2 ^ l.length ∧ perN (binW l.length (plainX l h)) = perN l) ∧ ∀ y, y < plainX l h → perN (binW l.length y) ≠ perN l := Classical.choose_spec (plain_ex h)
theorem pow14 {n : Nat} (h : n ≤ 14) : 2 ^ n ≤ 16384 := Nat.pow_le_pow_right (n := 2) (by omega) h
noncomputable def plainR (l : List UInt8) : ByteArray × Int := if chk8 l ≠ 0 then (emptyS, chk8 l) else if h : l.length ≤ 14 then (strC (binW l.length (plainX l h)), 0) else (emptyS, 16)
theorem f27_eq {l : List UInt8} {N : Nat} (hN : 17000 ≤ N) : f27 N (strC l) = some (plainR l) := by
  unfold f27 plainR
  rw [f23_eq (by omega), Option.bind_some]
  by_cases h0 : chk8 l = 0
  · simp only [h0, not_true, decide_false, cond_false, ne_eq, if_false, strC_size]
    by_cases h14 : l.length ≤ 14
    · have hlen := chk8_len h0
      rw [dif_pos h14, decide_eq_false (show ¬ (14 : Int) < (l.length : Int) by omega), cond_false, f47_eq (by omega)]
      have hc : chk (decide (0 ≤ (l.length : Int))) = some () := by rw [decide_eq_true (by omega)]; rfl
      simp only [Option.bind_some, joinK, hc]
      obtain ⟨⟨s1, s2⟩, s3⟩ := plainX_spec l h14
      have hp := pow14 h14
      -- one round
      have round : ∀ (r8 : Int → Option (ByteArray × Int)) (x : Nat), x < 2 ^ l.length → f27_8b r8 (strC l) N (toI (perN l)) (f27_c19 (strC l)) (x : Int) = if perN (binW l.length x) = perN l then some (strC (binW l.length x), 0) else r8 ((x + 1 : Nat) : Int) := by
        intro r8 x hx
        unfold f27_8b
        rw [strC_size, pow_shift (by omega), decide_eq_true (show (x : Int) < ((2 ^ l.length : Nat) : Int) by omega), cond_true, mkS_fill (x := x) (by omega)]
        simp only [joinK, Option.bind_some]
        have hb := f27_bits (l := l) (x2 := toI (perN l)) (x := x) (x3 := fill l.length x fun _ => false) (k2 := f27_c16 (strC l) N (toI (perN l)) (x : Int) (f27_c18 (strC l) (toI (perN l)) (x : Int) r8)) h14 (by omega) fill_len N 0 (by omega) (by omega)
        have e0 : (fill l.length x fun j => decide (l.length - 0 ≤ j)) = fill l.length x fun _ => false := by
          unfold fill
          refine List.map_congr_left fun j hj => ?_
          have := List.mem_range.1 hj
          have hn : ¬ l.length - 0 ≤ j := by omega
          simp only [hn, decide_false]
        rw [e0] at hb
        rw [show (0 : Int) = ((0 : Nat) : Int) from rfl, hb]
        unfold f27_c16 f27_c18
        rw [fillB_all (by omega) (fun i hi => decide_eq_true (show l.length - l.length ≤ i by omega))]
        simp only [Option.bind_some]
        rw [f47_eq (by rw [binW_len]; omega)]
        simp only [Option.bind_some]
        have hpl := perN_len (l := binW l.length x)
        rw [binW_len] at hpl
        rw [f55_eq (by rw [toI_len]; omega) (by rw [toI_len]; omega)]
        simp only [Option.bind_some, toI_inj]
        by_cases he : perN (binW l.length x) = perN l
        · rw [if_pos he, decide_eq_true he]; rfl
        · rw [if_neg he, decide_eq_false he, cond_false, W_nat (by omega)]
      obtain ⟨j, _, j2, j3, j4, j5⟩ := loop_find1 (F := f27_8 (strC l) N (toI (perN l)) (f27_c19 (strC l))) (k := fun (x : Nat) => some (strC (binW l.length x), 0)) (p := fun x => perN (binW l.length x) = perN l) 0 (plainX l h14) s2
        (fun n i _ hi hne => by
          show f27_8b _ _ _ _ _ _ = _
          rw [round _ i (by omega), if_neg hne])
        (fun n i _ hi he => by
          show f27_8b _ _ _ _ _ _ = _
          rw [round _ i (by omega), if_pos he]) N 0 (Nat.le_refl _) (Nat.zero_le _) (by omega)
      rw [show ((0 : Nat) : Int) = 0 from rfl] at j5
      rw [j5]
      have : j = plainX l h14 := by
        rcases Nat.lt_trichotomy j (plainX l h14) with hh | hh | hh
        · exact absurd j3 (s3 j hh)
        · exact hh
        · omega
      rw [this]
    · rw [dif_neg h14, decide_eq_true (show (14 : Int) < (l.length : Int) by omega)]; rfl
  · simp [h0]
end Go.Vc
namespace Go.Vc
open Go.Proofs
set_option linter.unusedVariables false
set_option linter.unnecessarySimpa false
set_option linter.unusedSimpArgs false
set_option linter.unusedSimpArgs false
set_option maxRecDepth 100000
theorem perN_iff' {l m : List UInt8} (h : l.length = m.length) : perN l = perN m ↔ ∀ p, 1 ≤ p → p ≤ l.length → isP l p = isP m p := by
  constructor
  · intro e p h1 h2
    have a : p ∈ perN l ↔ isP l p = true := by rw [perN_mem]; exact ⟨fun h => h.2, fun h => ⟨⟨h1, h2⟩, h⟩⟩
    have b : p ∈ perN m ↔ isP m p = true := by rw [perN_mem]; exact ⟨fun h => h.2, fun hh => ⟨⟨h1, by omega⟩, hh⟩⟩
    rw [e, b] at a
    cases h1 : isP l p with
    | true => exact (a.2 h1).symm
    | false =>
      cases h2 : isP m p with
      | false => rfl
      | true => rw [a.1 h2] at h1; cases h1
  · intro e
    unfold perN
    rw [h]
    refine List.filter_congr fun p hp => ?_
    rw [List.mem_range'_1] at hp
    exact e p hp.1 (by omega)
theorem f28_bits {l : List UInt8} {x : Nat} {k3 : List Int → Option (ByteArray × Int)} (hl : l.length ≤ 14) (hx : x < 1000000) :
    ∀ (m i : Nat), i ≤ l.length → l.length - i < m → f28_12 (strC l) (x : Int) k3 m (fill l.length x fun j => decide (j < i)) (i : Int) = k3 (fill l.length x fun j => decide (j < l.length)) := by
  intro m
  induction m with
  | zero => intro i _ h; omega
  | succ m ih =>
    intro i hi hm
    unfold f28_12 f28_12b
    rw [strC_size]
    by_cases h : i < l.length
    · have hw : W (W ((l.length : Int) - 1) - (i : Int)) = ((l.length - 1 - i : Nat) : Int) := by
        rw [W_of (n := (l.length : Int) - 1) (by omega) (by omega), W_of (by omega) (by omega)]; omega
      have hc : chk (decide (0 ≤ ((l.length - 1 - i : Nat) : Int))) = some () := by rw [decide_eq_true (by omega)]; rfl
      rw [hw]
      simp only [show (i : Int) < (l.length : Int) by omega, decide_true, cond_true, hc, Option.bind_some]
      rw [ix_nat, fill_get h]
      simp only [Option.bind_some]
      rw [wrap_bit (by omega) hx]
      have hs : setx (fill l.length x fun j => decide (j < i)) (i : Int) ((97 + x / 2 ^ (l.length - 1 - i) % 2 : Nat) : Int) = some (fill l.length x fun j => decide (j < i + 1)) := by
        unfold setx
        rw [if_pos ⟨by omega, by rw [fill_len]; omega⟩, Int.toNat_natCast]
        congr 1
        refine fill_set h fun j hj => ?_
        by_cases hji : j = i
        · rw [decide_eq_true hji, decide_eq_true (by omega)]; rfl
        · rw [decide_eq_false hji, Bool.false_or]
          exact decide_eq_decide.2 ⟨fun h => by omega, fun h => by omega⟩
      rw [hs, Option.bind_some, W_nat (by omega)]
      exact ih (i + 1) (by omega) (by omega)
    · have : i = l.length := by omega
      subst this
      simp only [Int.lt_irrefl, decide_false, cond_false]
open Classical in
theorem f28_same {N : Nat} {l : List UInt8} {v6 : Int} {x : Nat} {P : Nat → Bool} {k2 : Bool → Option (ByteArray × Int)} (hl : l.length ≤ 14) (hP : ∀ i, i < l.length → P i = true) (hN : 60 ≤ N) :
    ∀ (m p : Nat) (v : Bool), 1 ≤ p → p ≤ l.length + 1 → l.length + 1 - p < m → f28_17 (strC l) N v6 (fill l.length x P) k2 m v (p : Int) = k2 (v && decide (∀ d, p ≤ d → d ≤ l.length → isP (binW l.length x) d = isP l d)) := by
  intro m
  induction m with
  | zero => intro p v _ _ h; omega
  | succ m ih =>
    intro p v h1 hp hm
    unfold f28_17 f28_17b
    by_cases h : p ≤ l.length
    · rw [strC_size, decide_eq_true (show (p : Int) ≤ (l.length : Int) by omega), cond_true]
      cases v with
      | false => simp
      | true =>
        have hlen : (binW l.length x).length = l.length := binW_len
        rw [cond_true, fillB_all (by omega) hP, Option.bind_some, f50_eq (by omega) (by omega) (by omega), Option.bind_some, f50_eq (by omega) (by omega) (by omega), Option.bind_some, W_nat (by omega), ih (p + 1) _ (by omega) (by omega) (by omega)]
        congr 1
        by_cases he : isP (binW l.length x) p = isP l p
        · rw [he, beq_self_eq_true, Bool.true_and, Bool.true_and]
          refine decide_eq_decide.2 ⟨fun hh d d1 d2 => ?_, fun hh d d1 d2 => hh d (by omega) d2⟩
          by_cases hd : d = p
          · subst hd; exact he
          · exact hh d (by omega) d2
        · rw [Bool.true_and, decide_eq_false (p := ∀ d, p ≤ d → d ≤ l.length → isP (binW l.length x) d = isP l d) fun hh => he (hh p (Nat.le_refl _) h)]
          have : (isP (binW l.length x) p == isP l p) = false := by
            cases h1 : isP (binW l.length x) p <;> cases h2 : isP l p <;> simp_all
          rw [this]; rfl
    · rw [strC_size, decide_eq_false (show ¬ (p : Int) ≤ (l.length : Int) by omega), cond_false, decide_eq_true fun d d1 d2 => by omega, Bool.and_true]
open Classical in
theorem f28_eq {l : List UInt8} {N : Nat} (hN : 17000 ≤ N) : f28 N (strC l) = some (plainR l) := by
  unfold f28 plainR
  rw [f24_eq (by omega), Option.bind_some]
  simp only [joinK]
  by_cases h0 : chk8 l = 0
  · simp only [h0, not_true, decide_true, cond_true, ne_eq, if_false, strC_size]
    by_cases h14 : l.length ≤ 14
    · rw [dif_pos h14, decide_eq_false (show ¬ (14 : Int) < (l.length : Int) by omega), cond_false]
      unfold f28_c4
      simp only [not_true, decide_false, cond_false, joinK]
      have hc : chk (decide (0 ≤ ((strC l).size : Int))) = some () := by rw [decide_eq_true (by omega)]; rfl
      obtain ⟨⟨s1, s2⟩, s3⟩ := plainX_spec l h14
      have hp := pow14 h14
      have round : ∀ (r8 : Int → Option (ByteArray × Int)) (x : Nat), x < 2 ^ l.length → f28_8b r8 (strC l) N f28_c22 (x : Int) = if perN (binW l.length x) = perN l then some (strC (binW l.length x), 0) else r8 ((x + 1 : Nat) : Int) := by
        intro r8 x hx
        unfold f28_8b
        rw [hc, Option.bind_some, strC_size, pow_shift (by omega), decide_eq_true (show (x : Int) < ((2 ^ l.length : Nat) : Int) by omega), cond_true, mkS_fill (x := x) (by omega)]
        simp only [joinK, Option.bind_some]
        have hb := f28_bits (l := l) (x := x) (k3 := f28_c15 (strC l) N (x : Int) (f28_c9 (strC l) (x : Int) r8)) h14 (by omega) N 0 (by omega) (by omega)
        have e0 : (fill l.length x fun j => decide (j < 0)) = fill l.length x fun _ => false := by
          unfold fill
          refine List.map_congr_left fun j hj => ?_
          simp only [Nat.not_lt_zero, decide_false]
        rw [e0] at hb
        rw [show ((0 : Nat) : Int) = 0 from rfl] at hb
        rw [hb]
        unfold f28_c15
        simp only [joinK]
        have hs := f28_same (N := N) (l := l) (v6 := (x : Int)) (x := x) (P := fun j => decide (j < l.length)) (k2 := f28_c20 (strC l) (x : Int) (f28_c9 (strC l) (x : Int) r8) (fill l.length x fun j => decide (j < l.length))) h14 (fun i hi => decide_eq_true hi) (by omega) N 1 true (by omega) (by omega) (by omega)
        rw [show ((1 : Nat) : Int) = 1 from rfl] at hs
        rw [hs]
        unfold f28_c20 f28_c9
        rw [Bool.true_and]
        have key := perN_iff' (l := binW l.length x) (m := l) binW_len
        rw [binW_len] at key
        by_cases he : perN (binW l.length x) = perN l
        · rw [if_pos he, decide_eq_true (key.1 he), cond_true, fillB_all (by omega) (fun i hi => decide_eq_true hi)]; rfl
        · rw [if_neg he, decide_eq_false fun hh => he (key.2 hh), cond_false, W_nat (by omega)]
      obtain ⟨j, _, j2, j3, j4, j5⟩ := loop_find1 (F := f28_8 (strC l) N f28_c22) (k := fun (x : Nat) => some (strC (binW l.length x), 0)) (p := fun x => perN (binW l.length x) = perN l) 0 (plainX l h14) s2
        (fun n i _ hi hne => by
          show f28_8b _ _ _ _ _ = _
          rw [round _ i (by omega), if_neg hne])
        (fun n i _ hi he => by
          show f28_8b _ _ _ _ _ = _
          rw [round _ i (by omega), if_pos he]) N 0 (Nat.le_refl _) (Nat.zero_le _) (by omega)
      rw [show ((0 : Nat) : Int) = 0 from rfl] at j5
      rw [j5]
      have : j = plainX l h14 := by
        rcases Nat.lt_trichotomy j (plainX l h14) with hh | hh | hh
        · exact absurd j3 (s3 j hh)
        · exact hh
        · omega
      rw [this]
    · rw [dif_neg h14, decide_eq_true (show (14 : Int) < (l.length : Int) by omega)]; rfl
  · simp only [h0, decide_false, cond_false, ne_eq, not_false_eq_true, if_true]
    unfold f28_c4
    simp [h0]
end Go.Vc
namespace Go.Vc
open Go.Proofs
set_option linter.unusedVariables false
set_option linter.unnecessarySimpa false
set_option linter.unusedSimpArgs false
set_option linter.unusedSimpArgs false
set_option maxRecDepth 100000
section
variable {n p q : Nat}
def rowG (n : Nat) (g : Nat → Nat) : List Int := (List.range n).map fun k => (g k : Int)
theorem rowG_len {g : Nat → Nat} : (rowG n g).length = n := by simp [rowG]
theorem rowG_get {g : Nat → Nat} {k : Nat} (h : k < n) : (rowG n g)[k]? = some (g k : Int) := by
  unfold rowG
  rw [List.getElem?_map, List.getElem?_range h]; rfl
theorem rowG_ix {g : Nat → Nat} {k : Nat} (h : k < n) : ix (rowG n g) (k : Int) = some (g k : Int) := by rw [ix_nat, rowG_get h]
def upd (g : Nat → Nat) (i m : Nat) : Nat → Nat := fun k => if k = i then m else g k
theorem rowG_set {g : Nat → Nat} {i m : Nat} (h : i < n) : setx (rowG n g) (i : Int) (m : Int) = some (rowG n (upd g i m)) := by
  unfold setx
  rw [if_pos ⟨by omega, by rw [rowG_len]; omega⟩, Int.toNat_natCast]
  congr 1
  refine List.ext_getElem? fun k => ?_
  by_cases hk : k < n
  · rw [rowG_get hk]
    unfold upd
    by_cases hki : k = i
    · subst hki; rw [List.getElem?_set_self (by rw [rowG_len]; exact h), if_pos rfl]
    · rw [List.getElem?_set_ne (by omega), rowG_get hk, if_neg hki]
  · rw [List.getElem?_eq_none (by simp [rowG_len]; omega), List.getElem?_eq_none (by rw [rowG_len]; omega)]
def relax (g : Nat → Nat) (i j : Nat) : Nat → Nat := upd (upd g i (min (g i) (g j))) j (min (g i) (g j))
theorem relax_le {g : Nat → Nat} {i j k : Nat} : relax g i j k ≤ g k := by
  unfold relax upd
  by_cases h1 : k = j
  · subst h1; rw [if_pos rfl]; omega
  · rw [if_neg h1]
    by_cases h2 : k = i
    · subst h2; rw [if_pos rfl]; omega
    · rw [if_neg h2]; omega
theorem relax_i {g : Nat → Nat} {i j : Nat} : relax g i j i ≤ g j := by
  unfold relax upd
  by_cases h : i = j
  · subst h; rw [if_pos rfl]; omega
  · rw [if_neg h, if_pos rfl]; omega
theorem relax_j {g : Nat → Nat} {i j : Nat} : relax g i j j ≤ g i := by
  unfold relax upd
  rw [if_pos rfl]; omega
def Sound (n p q : Nat) (g : Nat → Nat) : Prop := ∀ k, k < n → g k < n ∧ Conn n p q (g k) k
theorem relax_sound {g : Nat → Nat} {i j : Nat} (hi : i < n) (hj : j < n) (h : Conn n p q i j) (hs : Sound n p q g) : Sound n p q (relax g i j) := by
  have hm : ∀ x, (x = i ∨ x = j) → (min (g i) (g j)) < n ∧ Conn n p q (min (g i) (g j)) x := by
    obtain ⟨a1, a2⟩ := hs i hi
    obtain ⟨b1, b2⟩ := hs j hj
    intro x hx
    by_cases hle : g i ≤ g j
    · rw [Nat.min_eq_left hle]
      refine ⟨a1, ?_⟩
      rcases hx with rfl | rfl
      · exact a2
      · exact a2.trans h
    · rw [Nat.min_eq_right (by omega)]
      refine ⟨b1, ?_⟩
      rcases hx with rfl | rfl
      · exact b2.trans (h.symm hi)
      · exact b2
  intro k hk
  unfold relax upd
  by_cases h1 : k = j
  · rw [if_pos h1]; exact hm k (.inr h1)
  · rw [if_neg h1]
    by_cases h2 : k = i
    · rw [if_pos h2]; exact hm k (.inl h2)
    · rw [if_neg h2]; exact hs k hk
theorem relax_step {ρ : Type} {g : Nat → Nat} {i d : Nat} {A : List Int → Option ρ} (hn : n ≤ 24) (h : i + d < n) :
    ((ix (rowG n g) (i : Int)).bind fun x18 => (ix (rowG n g) (W ((i : Int) + (d : Int)))).bind fun x19 => (ix (rowG n g) (i : Int)).bind fun x20 => (setx (rowG n g) (i : Int) (min x18 x19)).bind fun x21 =>
      (ix x21 (W ((i : Int) + (d : Int)))).bind fun x22 => (setx x21 (W ((i : Int) + (d : Int))) (min x18 x19)).bind fun x23 => A x23) = A (rowG n (relax g i (i + d))) := by
  have hw : W ((i : Int) + (d : Int)) = ((i + d : Nat) : Int) := by rw [W_of (by omega) (by omega)]; omega
  rw [hw, rowG_ix (by omega), rowG_ix h]
  simp only [Option.bind_some]
  have hm : min (g i : Int) (g (i + d) : Int) = ((min (g i) (g (i + d)) : Nat) : Int) := by omega
  rw [hm, rowG_set (by omega)]
  simp only [Option.bind_some]
  rw [rowG_ix h]
  simp only [Option.bind_some]
  rw [rowG_set h]
  rfl
structure Pass (n p q : Nat) (g0 g : Nat → Nat) (i : Nat) : Prop where
  sound : Sound n p q g
  le : ∀ k, g k ≤ g0 k
  p1 : ∀ j, j < i → j + p < n → g j ≤ g0 (j + p) ∧ g (j + p) ≤ g0 j
  q1 : ∀ j, j < i → j + q < n → g j ≤ g0 (j + q) ∧ g (j + q) ≤ g0 j
theorem Pass.relax {g0 g : Nat → Nat} {i a b : Nat} (h : Pass n p q g0 g i) (ha : a < n) (hb : b < n) (hc : Conn n p q a b) : Pass n p q g0 (relax g a b) i := by
  refine ⟨relax_sound ha hb hc h.sound, fun k => Nat.le_trans relax_le (h.le k), fun j hj hn => ?_, fun j hj hn => ?_⟩
  · obtain ⟨x, y⟩ := h.p1 j hj hn
    exact ⟨Nat.le_trans relax_le x, Nat.le_trans relax_le y⟩
  · obtain ⟨x, y⟩ := h.q1 j hj hn
    exact ⟨Nat.le_trans relax_le x, Nat.le_trans relax_le y⟩
theorem pass_loop {v10 : Int} {k2 : List Int → Option (ByteArray × Int)} {g0 : Nat → Nat} (hn : n ≤ 24) (hp : p ≤ 24) (hq : q ≤ 24) :
    ∀ (m i : Nat) (g : Nat → Nat), i ≤ n → n - i < m → Pass n p q g0 g i → ∃ g', f26_12 (p : Int) (q : Int) (n : Int) v10 k2 m (rowG n g) (i : Int) = k2 (rowG n g') ∧ Pass n p q g0 g' n := by
  intro m
  induction m with
  | zero => intro i g _ h; omega
  | succ m ih =>
    intro i g hi hm hP
    unfold f26_12 f26_12b
    by_cases h : i < n
    · rw [decide_eq_true (show (i : Int) < (n : Int) by omega), cond_true]
      simp only [joinK]
      have wp : W ((i : Int) + (p : Int)) = ((i + p : Nat) : Int) := by rw [W_of (by omega) (by omega)]; omega
      have wq : W ((i : Int) + (q : Int)) = ((i + q : Nat) : Int) := by rw [W_of (by omega) (by omega)]; omega
      -- the second half
      have half : ∀ g1, Pass n p q g0 g1 i → (i + p < n → g1 i ≤ g0 (i + p) ∧ g1 (i + p) ≤ g0 i) → ∃ g', f26_c17 (p : Int) (q : Int) (n : Int) v10 (i : Int) (f26_12 (p : Int) (q : Int) (n : Int) v10 k2 m) (rowG n g1) = k2 (rowG n g') ∧ Pass n p q g0 g' n := by
        intro g1 h1 h2
        unfold f26_c17
        by_cases hc : i + q < n
        · rw [decide_eq_true (show W ((i : Int) + (q : Int)) < (n : Int) by omega), cond_true, relax_step hn hc, W_nat (by omega)]
          refine ih (i + 1) _ (by omega) (by omega) ?_
          have h3 := h1.relax (a := i) (b := i + q) h hc (Conn.refl.step ⟨hc, .inr (.inr (.inl rfl))⟩)
          refine ⟨h3.sound, h3.le, fun j hj hn => ?_, fun j hj hn => ?_⟩
          · by_cases hji : j = i
            · subst hji
              obtain ⟨x, y⟩ := h2 hn
              exact ⟨Nat.le_trans relax_le x, Nat.le_trans relax_le y⟩
            · exact h3.p1 j (by omega) hn
          · by_cases hji : j = i
            · subst hji
              exact ⟨Nat.le_trans relax_i (h1.le _), Nat.le_trans relax_j (h1.le _)⟩
            · exact h3.q1 j (by omega) hn
        · rw [decide_eq_false (show ¬ W ((i : Int) + (q : Int)) < (n : Int) by omega), cond_false, W_nat (by omega)]
          refine ih (i + 1) _ (by omega) (by omega) ?_
          refine ⟨h1.sound, h1.le, fun j hj hn => ?_, fun j hj hn => ?_⟩
          · by_cases hji : j = i
            · subst hji; exact h2 hn
            · exact h1.p1 j (by omega) hn
          · by_cases hji : j = i
            · subst hji; exact absurd hn hc
            · exact h1.q1 j (by omega) hn
      by_cases hc : i + p < n
      · rw [decide_eq_true (show W ((i : Int) + (p : Int)) < (n : Int) by omega), cond_true, relax_step hn hc]
        exact half _ (hP.relax h hc (Conn.refl.step ⟨hc, .inl rfl⟩)) fun _ => ⟨Nat.le_trans relax_i (hP.le _), Nat.le_trans relax_j (hP.le _)⟩
      · rw [decide_eq_false (show ¬ W ((i : Int) + (p : Int)) < (n : Int) by omega), cond_false]
        exact half _ hP fun hh => absurd hh hc
    · have : i = n := by omega
      subst this
      rw [decide_eq_false (Int.lt_irrefl _), cond_false]
      exact ⟨g, rfl, hP⟩
noncomputable def good (n p q : Nat) (g : Nat → Nat) : Nat := (List.range n).countP fun k => decide (g k = fstC n p q k)
theorem countP_more {α : Type} {f g : α → Bool} : ∀ {L : List α}, (∀ x ∈ L, f x = true → g x = true) → (∃ x ∈ L, g x = true ∧ f x = false) → L.countP f + 1 ≤ L.countP g := by
  intro L
  induction L with
  | nil => rintro _ ⟨x, hx, _⟩; cases hx
  | cons y L ih =>
    intro h1 h2
    have hmono : L.countP f ≤ L.countP g := List.countP_mono_left fun x hx => h1 x (by simp [hx])
    simp only [List.countP_cons]
    obtain ⟨x, hx, gx, fx⟩ := h2
    rcases List.mem_cons.1 hx with rfl | hx
    · rw [gx, fx]; simp; omega
    · have := ih (fun x hx => h1 x (by simp [hx])) ⟨x, hx, gx, fx⟩
      by_cases hy : f y = true
      · rw [hy, h1 y (by simp) hy]; omega
      · rw [if_neg hy]
        split <;> omega
theorem edge_ex {P : Nat → Prop} {a b : Nat} (ha : a < n) (h : Conn n p q a b) (hP : P a) (hb : ¬ P b) : ∃ x y, x < n ∧ Nb n p q x y ∧ P x ∧ ¬ P y := by
  induction h with
  | refl => exact absurd hP hb
  | @step c d h1 hn ih =>
    by_cases hc : P c
    · exact ⟨c, d, h1.lt ha, hn, hc, hb⟩
    · exact ih hc
structure Rnd (n p q : Nat) (g : Nat → Nat) (r : Nat) : Prop where
  sound : Sound n p q g
  le : ∀ k, g k ≤ k
  cnt : r ≤ good n p q g ∨ ∀ k, k < n → g k = fstC n p q k
theorem round_next {g0 g : Nat → Nat} {r : Nat} (h0 : Rnd n p q g0 r) (h : Pass n p q g0 g n) : Rnd n p q g (r + 1) := by
  have keep : ∀ k, k < n → g0 k = fstC n p q k → g k = fstC n p q k := by
    intro k hk e
    have h1 := h.le k
    have h2 := fstC_le (h.sound k hk).2
    omega
  refine ⟨h.sound, fun k => Nat.le_trans (h.le k) (h0.le k), ?_⟩
  by_cases hall : ∀ k, k < n → g0 k = fstC n p q k
  · exact .inr fun k hk => keep k hk (hall k hk)
  · refine .inl ?_
    have hr : r ≤ good n p q g0 := by
      rcases h0.cnt with h | h
      · exact h
      · exact absurd h hall
    have hex : ∃ k, k < n ∧ g0 k ≠ fstC n p q k := by
      by_cases hh : ∃ k, k < n ∧ g0 k ≠ fstC n p q k
      · exact hh
      · refine absurd (fun k hk => ?_) hall
        by_cases he : g0 k = fstC n p q k
        · exact he
        · exact absurd ⟨k, hk, he⟩ hh
    obtain ⟨k, hk, hne⟩ := hex
    obtain ⟨f1, f2, f3⟩ := fstC_spec n p q k
    -- the first place is right
    have hf : g0 (fstC n p q k) = fstC n p q (fstC n p q k) := by
      have e1 := fstC_idem (p := p) (q := q) hk
      have e2 := h0.le (fstC n p q k)
      have e3 := fstC_le (h0.sound (fstC n p q k) (by omega)).2
      omega
    obtain ⟨x, y, xn, hnb, hx, hy⟩ := edge_ex (P := fun k => g0 k = fstC n p q k) (by omega) f2 hf hne
    have hyn := hnb.1
    have hxy : fstC n p q x = fstC n p q y := (fstC_eq xn hyn).2 (Conn.refl.step hnb)
    have hgy : g y ≤ g0 x := by
      rcases hnb.2 with e | e | e | e
      · subst e; exact (h.p1 x xn hyn).2
      · subst e; exact (h.p1 y hyn xn).1
      · subst e; exact (h.q1 x xn hyn).2
      · subst e; exact (h.q1 y hyn xn).1
    have hgood : g y = fstC n p q y := by
      have := fstC_le (h.sound y hyn).2
      omega
    have := countP_more (f := fun k => decide (g0 k = fstC n p q k)) (g := fun k => decide (g k = fstC n p q k)) (L := List.range n)
      (fun z hz hh => by
        simp only [decide_eq_true_eq] at hh ⊢
        exact keep z (List.mem_range.1 hz) hh) ⟨y, List.mem_range.2 hyn, by simp only [decide_eq_true_eq]; exact hgood, by simp only [decide_eq_false_iff_not]; exact hy⟩
    unfold good at hr ⊢
    omega
theorem rounds_loop {N : Nat} {k1 : List Int → Option (ByteArray × Int)} (hn : n ≤ 24) (hp : p ≤ 24) (hq : q ≤ 24) (hN : 60 ≤ N) :
    ∀ (m r : Nat) (g : Nat → Nat), r ≤ n → n - r < m → Rnd n p q g r → f26_9 (p : Int) (q : Int) (n : Int) N k1 m (rowG n g) (r : Int) = k1 (rowG n (fstC n p q)) := by
  intro m
  induction m with
  | zero => intro r g _ h; omega
  | succ m ih =>
    intro r g hr hm hR
    unfold f26_9 f26_9b
    by_cases h : r < n
    · rw [decide_eq_true (show (r : Int) < (n : Int) by omega), cond_true]
      simp only [joinK]
      obtain ⟨g', e, hP⟩ := pass_loop (v10 := (r : Int)) (k2 := f26_c10 (p : Int) (q : Int) (n : Int) (r : Int) (f26_9 (p : Int) (q : Int) (n : Int) N k1 m)) (g0 := g) hn hp hq N 0 g (by omega) (by omega) ⟨hR.sound, fun k => Nat.le_refl _, fun j hj => by omega, fun j hj => by omega⟩
      rw [show ((0 : Nat) : Int) = 0 from rfl] at e
      rw [e]
      unfold f26_c10
      rw [W_nat (by omega)]
      exact ih (r + 1) g' (by omega) (by omega) (round_next hR hP)
    · have : r = n := by omega
      subst this
      rw [decide_eq_false (Int.lt_irrefl _), cond_false]
      congr 1
      have hall : ∀ k, k < r → g k = fstC r p q k := by
        rcases hR.cnt with hc | hc
        · have hle : good r p q g ≤ r := by
            have := List.countP_le_length (p := fun k => decide (g k = fstC r p q k)) (l := List.range r)
            simpa [good] using this
          have heq : (List.range r).countP (fun k => decide (g k = fstC r p q k)) = (List.range r).length := by
            rw [List.length_range]
            unfold good at hc hle
            omega
          rw [List.countP_eq_length] at heq
          intro k hk
          have := heq k (List.mem_range.2 hk)
          simpa using this
        · exact hc
      unfold rowG
      refine List.map_congr_left fun k hk => ?_
      rw [hall k (List.mem_range.1 hk)]
theorem first_loop {k4 : List Int → Option (ByteArray × Int)} (hn : n ≤ 24) : ∀ (m i : Nat), i ≤ n → n - i < m →
    f26_5 (p : Int) (q : Int) (n : Int) k4 m (rowG n fun k => if k < i then k else 0) (i : Int) = k4 (rowG n fun k => k) := by
  intro m
  induction m with
  | zero => intro i _ h; omega
  | succ m ih =>
    intro i hi hm
    unfold f26_5 f26_5b
    by_cases h : i < n
    · rw [decide_eq_true (show (i : Int) < (n : Int) by omega), cond_true, rowG_ix h, Option.bind_some, rowG_set h, Option.bind_some, W_nat (by omega)]
      have : rowG n (upd (fun k => if k < i then k else 0) i i) = rowG n fun k => if k < i + 1 then k else 0 := by
        unfold rowG upd
        refine List.map_congr_left fun k hk => ?_
        congr 1
        show (if k = i then i else if k < i then k else 0) = if k < i + 1 then k else 0
        by_cases hk2 : k = i
        · subst hk2; rw [if_pos rfl, if_pos (by omega)]
        · rw [if_neg hk2]
          by_cases hk3 : k < i
          · rw [if_pos hk3, if_pos (by omega)]
          · rw [if_neg hk3, if_neg (by omega)]
      rw [this]
      exact ih (i + 1) (by omega) (by omega)
    · have : i = n := by omega
      subst this
      rw [decide_eq_false (Int.lt_irrefl _), cond_false]
      congr 1
      unfold rowG
      refine List.map_congr_left fun k hk => ?_
      show ((if k < i then k else 0 : Nat) : Int) = (k : Int)
      rw [if_pos (List.mem_range.1 hk)]
theorem out_loop (hn : n ≤ 24) : ∀ (m i : Nat), i ≤ n → n - i < m →
    f26_23 (n : Int) (rowG n (fstC n p q)) f26_c29 m (strC ((wideN n p q).take i)) (rankC n p q i : Int) (i : Int) = some (strC (wideN n p q), 0) := by
  intro m
  induction m with
  | zero => intro i _ h; omega
  | succ m ih =>
    intro i hi hm
    unfold f26_23 f26_23b
    by_cases h : i < n
    · rw [decide_eq_true (show (i : Int) < (n : Int) by omega), cond_true, rowG_ix h]
      simp only [Option.bind_some]
      have hlen : (wideN n p q).length = n := wideN_len
      have f1 := (fstC_spec n p q i).1
      have hg := wideN_get (p := p) (q := q) h
      rw [List.getElem?_eq_getElem (by omega)] at hg
      have htake : (wideN n p q).take (i + 1) = (wideN n p q).take i ++ [(wideN n p q)[i]'(by omega)] := List.take_succ_eq_append_getElem (by omega)
      have hr := rankC_le (n := n) (p := p) (q := q) i
      by_cases hc : fstC n p q i < i
      · rw [decide_eq_true (show (fstC n p q i : Int) < (i : Int) by omega), cond_true, W_nat (by omega)]
        rw [subS_L (by omega) (by simp; omega)]
        simp only [Option.bind_some]
        have e : ((List.take (fstC n p q i + 1) ((wideN n p q).take i)).drop (fstC n p q i)) = [(wideN n p q)[i]'(by omega)] := by
          rw [List.take_take, show min (fstC n p q i + 1) i = fstC n p q i + 1 by omega, List.take_succ_eq_append_getElem (by omega), List.drop_append_of_le_length (by simp; omega), List.drop_eq_nil_of_le (by simp; omega), List.nil_append]
          have hg2 := wideN_get (p := p) (q := q) (show fstC n p q i < n by omega)
          rw [List.getElem?_eq_getElem (by omega)] at hg2
          rw [Option.some.inj hg, Option.some.inj hg2]
          congr 1
          exact (ofNat_val hn (by omega) h).2 (fstC_spec n p q i).2.1
        rw [e, addS_L (by simp; omega), Option.bind_some, ← htake, W_nat (by omega)]
        have : rankC n p q i = rankC n p q (i + 1) := by rw [rankC, if_neg (by omega)]; omega
        rw [this]
        exact ih (i + 1) (by omega) (by omega)
      · have hf : fstC n p q i = i := by omega
        rw [decide_eq_false (show ¬ (fstC n p q i : Int) < (i : Int) by omega), cond_false]
        have e : strOf [Wk .u8 (W ((97 : Int) + (rankC n p q i : Int)))] = some (strC [(wideN n p q)[i]'(by omega)]) := by
          rw [W_of (by omega) (by omega), Wk_of (by simp [IntKind.min, IntKind.max, IntKind.signed, IntKind.bits]; omega)]
          unfold strOf
          rw [if_pos (by simp [maxLen])]
          show some (strC _) = _
          rw [Option.some.inj hg]
          unfold valC
          rw [hf]
          congr 2
        rw [e]
        simp only [Option.bind_some]
        rw [addS_L (by simp; omega), Option.bind_some, ← htake]
        have : W ((rankC n p q i : Int) + 1) = ((rankC n p q (i + 1) : Nat) : Int) := by rw [rankC, if_pos hf]; exact W_nat (by omega)
        rw [this, W_nat (by omega)]
        exact ih (i + 1) (by omega) (by omega)
    · have : i = n := by omega
      subst this
      rw [decide_eq_false (Int.lt_irrefl _), cond_false, List.take_of_length_le (by rw [wideN_len]; exact Nat.le_refl _)]
      rfl
end
theorem fs54 {N : Nat} {a b c : Int} : f54 N a b c = some (decide (b ≤ a ∧ a ≤ c)) := by
  unfold f54 f71
  by_cases h : b ≤ a <;> simp [h]
theorem f26_eq {N : Nat} {a b c : Int} (hN : 60 ≤ N) : f26 N a b c = some (if (1 ≤ c ∧ c ≤ 24) ∧ (1 ≤ a ∧ a ≤ c) ∧ (1 ≤ b ∧ b ≤ c) then (strC (wideN c.toNat a.toNat b.toNat), 0) else (emptyS, 3)) := by
  unfold f26
  rw [fs54, fs54, fs54]
  simp only [Option.bind_some]
  by_cases h1 : 1 ≤ c ∧ c ≤ 24
  · by_cases h2 : 1 ≤ a ∧ a ≤ c
    · by_cases h3 : 1 ≤ b ∧ b ≤ c
      · rw [if_pos ⟨h1, h2, h3⟩, decide_eq_true h1, decide_eq_true h2, decide_eq_true h3]
        obtain ⟨n, rfl⟩ : ∃ n : Nat, c = n := ⟨c.toNat, by omega⟩
        obtain ⟨p, rfl⟩ : ∃ n : Nat, a = n := ⟨a.toNat, by omega⟩
        obtain ⟨q, rfl⟩ : ∃ n : Nat, b = n := ⟨b.toNat, by omega⟩
        have hm : mkS 8 (0 : Int) (n : Int) (n : Int) = some (rowG n fun k => if k < 0 then k else 0) := by
          unfold mkS
          rw [if_pos ⟨by omega, by omega, by omega⟩, Int.toNat_natCast]
          congr 1
          refine List.ext_getElem? fun k => ?_
          by_cases hk : k < n
          · rw [rowG_get hk, List.getElem?_replicate, if_pos hk]; rfl
          · rw [List.getElem?_eq_none (by simp; omega), List.getElem?_eq_none (by rw [rowG_len]; omega)]
        simp only [Bool.not_true, cond_false, hm, Option.bind_some, joinK, Int.toNat_natCast]
        have e1 := first_loop (n := n) (p := p) (q := q) (k4 := f26_c8 (p : Int) (q : Int) (n : Int) N) (by omega) N 0 (by omega) (by omega)
        refine Eq.trans e1 ?_
        unfold f26_c8
        simp only [joinK]
        have e2 := rounds_loop (n := n) (p := p) (q := q) (N := N) (k1 := f26_c20 (n : Int) N) (by omega) (by omega) (by omega) hN N 0 (fun k => k) (by omega) (by omega) ⟨fun k hk => ⟨hk, .refl⟩, fun k => Nat.le_refl _, .inl (Nat.zero_le _)⟩
        refine Eq.trans e2 ?_
        unfold f26_c20
        simp only [joinK]
        exact out_loop (n := n) (p := p) (q := q) (by omega) N 0 (by omega) (by omega)
      · rw [if_neg (fun h => h3 h.2.2), decide_eq_true h1, decide_eq_true h2, decide_eq_false h3]; rfl
    · rw [if_neg (fun h => h2 h.2.1), decide_eq_true h1, decide_eq_false h2]; rfl
  · rw [if_neg (fun h => h1 h.1), decide_eq_false h1]; rfl
theorem t15_17 : f15 17000 = some true := by decide +kernel
theorem f4_true (a b c : Int) (a3 : ByteArray) : f4 17000 a b c a3 = some true := by
  obtain ⟨l, rfl⟩ := S_ex a3
  unfold f4
  rw [t15_17]
  by_cases h : 100 < l.length
  · simp [show (100 : Int) < (l.length : Int) by omega]
  · rw [strC_size, decide_eq_false (show ¬ (100 : Int) < (l.length : Int) by omega), cond_false, f25_eq (by omega), f26_eq (by omega), f27_eq (by omega), f28_eq (by omega)]
    simp
end Go.Vc
namespace Go.Vc
set_option linter.unusedVariables false
set_option linter.unnecessarySimpa false
set_option linter.unusedSimpArgs false
set_option linter.unusedSimpArgs false
abbrev tS : Ty := .str
abbrev tI : Ty := .int .i64
def i64In (n : Int) : Prop := -9223372036854775808 ≤ n ∧ n ≤ 9223372036854775807
theorem tI_of {ds : List D} (h : tI.has ds) : ∃ n, ds = [iN n] ∧ i64In n := by
  simp only [tI, Ty.has] at h
  obtain ⟨n, rfl, h⟩ := h
  exact ⟨n, rfl, by simpa [IntKind.min, IntKind.max, IntKind.signed, IntKind.bits, i64In] using h⟩
theorem tS_of {ds : List D} (h : tS.has ds) : ∃ s, ds = [strN s] := by
  simp only [tS, Ty.has] at h
  obtain ⟨s, rfl, _⟩ := h
  exact ⟨s, rfl⟩
theorem tI_ofD {x : D} (h : tI.hasD x) : ∃ n, x = iN n ∧ i64In n := by
  obtain ⟨n, h1, h2⟩ := tI_of (ds := [x]) h
  exact ⟨n, List.singleton_inj.1 h1, h2⟩
theorem tS_ofD {x : D} (h : tS.hasD x) : ∃ s, x = strN s := by
  obtain ⟨n, h1⟩ := tS_of (ds := [x]) h
  exact ⟨n, List.singleton_inj.1 h1⟩
end Go.Vc

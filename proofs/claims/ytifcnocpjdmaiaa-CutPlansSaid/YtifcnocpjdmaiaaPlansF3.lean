/-
  A library for proofs about Go functions by symbolic evaluation, and plain Lean functions that the walked Go functions compute (written by a program of this claim).
-/
import Derived.Test.YtifcnocpjdmaiaaPlansF1
import Derived.Test.YtifcnocpjdmaiaaPlansF2
import Derived.Test.YtifcnocpjdmaiaaVc2
namespace Go.Vc
open Go.Proofs
set_option linter.unusedVariables false
set_option linter.unnecessarySimpa false
set_option linter.unusedSimpArgs false
/- f62: tusche/tuscheref06.inside -/
def f62_c7 (v5 : List Label) : Option ((List Label)) :=
 some (v5)
def Sf62_c7 : Ann := ⟨[5], [90005], [(.slot 5, 90005, 57, 4)], []⟩
def Vf62_c7 (v5 : List Label) : List SV := [.rs 90005 (List.length v5)]
def Bf62_c7 (v5 : List Label) : List Blk := [.row 57 4 (List.map Label.d v5)]
theorem Cf62_c7 {c : Ctx} {p nid : Nat} {a b : Code} {st : St} {K : Ex → St → Prop} {r : (List Label)} {g : _ → Option ((List Label))} (hn : Nat.beq (nid * 1000 + firstRegion b) 7 = true) (hz : Sf62_c7.ok p = true)
    (h : g f62_c7 = some r → vc c p nid a st (Kseq (fun st' => st'.head Sf62_c7 fun v bl => ∃ x, (fun y : (List Label) => f62_c7  y = some r) x ∧ v = (fun y : (List Label) => Vf62_c7  y) x ∧ bl = (fun y : (List Label) => Bf62_c7  y) x) K))
    (h2 : ∀ (v5 : List Label), f62_c7  v5 = some r → vc c p nid b (St.mk' Sf62_c7 (Vf62_c7  v5) (Bf62_c7  v5)) K) (hF : joinK f62_c7 g = some r) : vc c p nid (.seq a b) st K :=
  vc_cut Sf62_c7 (fun y : (List Label) => Vf62_c7  y) (fun y : (List Label) => Bf62_c7  y) (fun y : (List Label) => f62_c7  y = some r) hz (h hF) fun y hy => h2 y hy
def V2f62_c7 (v5 : List Label) (m0 : Nat) : List SV := [.rs 90005 m0]
def B2f62_c7 (v5 : List Label) (m0 : Nat) : List Blk := [.row 57 4 (List.map Label.d v5)]
theorem Zf62_c7 {K : Ex → St → Prop} {r : (List Label)} {v5 : List Label} {m0 : Nat} {st st' : St} (hF : f62_c7  v5 = some r) (h1 : st.norm Sf62_c7 = some st') (h2 : st'.cutOk Sf62_c7.keep Sf62_c7.bs (memB Sf62_c7.bs) = true) (h3 : vals Sf62_c7.keep st'.e = V2f62_c7  v5 m0) (h4 : blks Sf62_c7.bs st'.m = B2f62_c7  v5 m0) (em0 : m0 = List.length v5) :
    Kseq (fun st' => st'.head Sf62_c7 fun v bl => ∃ x, (fun y : (List Label) => f62_c7  y = some r) x ∧ v = (fun y : (List Label) => Vf62_c7  y) x ∧ bl = (fun y : (List Label) => Bf62_c7  y) x) K .normal st := by
  subst em0; exact k_seq (head_in (I := (fun y : (List Label) => f62_c7  y = some r)) (x := (v5)) hF h1 h2 h3 h4)
def f62_3b (r3 : (List Label) → Int → Option ((List Label))) (a0 : List Label) (a1 : Label) (k0 : (List Label) → Option ((List Label))) (v5 : List Label) (v6 : Int) : Option ((List Label)) :=
 bif decide (v6 < (List.length a0 : Int)) then ((ix a0 v6).bind fun x1 =>
 bif decide (a1.X ≤ x1.X) then ((ix a0 v6).bind fun x2 =>
 bif decide (a1.Y ≤ x2.Y) then ((ix a0 v6).bind fun x3 =>
 (ix a0 v6).bind fun x4 =>
 bif decide ((W (x3.X + x4.W)) ≤ (W (a1.X + a1.W))) then ((ix a0 v6).bind fun x5 =>
 (ix a0 v6).bind fun x6 =>
 bif decide ((W (x5.Y + x6.H)) ≤ (W (a1.Y + a1.H))) then ((ix a0 v6).bind fun x7 =>
 (app 32 v5 [x7]).bind fun x8 =>
 r3 x8 (W (v6 + (1 : Int))))
 else (r3 v5 (W (v6 + (1 : Int)))))
 else (r3 v5 (W (v6 + (1 : Int)))))
 else (r3 v5 (W (v6 + (1 : Int)))))
 else (r3 v5 (W (v6 + (1 : Int)))))
 else (k0 v5)
def f62_3 (a0 : List Label) (a1 : Label) (k0 : (List Label) → Option ((List Label))) : Nat → (List Label) → Int → Option ((List Label))
  | 0, _, _ => none
  | n + 1, v5, v6 => f62_3b (f62_3 a0 a1 k0 n) a0 a1 k0 v5 v6
def Sf62_3 : Ann := ⟨[0, 3, 5, 6], [0, 90005], [(.slot 5, 90005, 57, 4)], []⟩
def Vf62_3 (a0 : List Label) (a1 : Label) (v5 : List Label) (v6 : Int) : List SV := [.dat (sl_Label a0), .ptr 0 0, .rs 90005 (List.length v5), .dat (iN v6)]
def Bf62_3 (a0 : List Label) (a1 : Label) (v5 : List Label) (v6 : Int) : List Blk := [.box [.dat (iN a1.X), .dat (iN a1.Y), .dat (iN a1.W), .dat (iN a1.H)], .row 57 4 (List.map Label.d v5)]
def V2f62_3 (a0 : List Label) (a1 : Label) (v5 : List Label) (v6 : Int) (m0 : Nat) : List SV := [.dat (sl_Label a0), .ptr 0 0, .rs 90005 m0, .dat (iN v6)]
def B2f62_3 (a0 : List Label) (a1 : Label) (v5 : List Label) (v6 : Int) (m0 : Nat) : List Blk := [.box [.dat (iN a1.X), .dat (iN a1.Y), .dat (iN a1.W), .dat (iN a1.H)], .row 57 4 (List.map Label.d v5)]
theorem Lf62_3 {c : Ctx} {p nid : Nat} {a : Code} {K : Ex → St → Prop} {r : (List Label)} {a0 : List Label} {a1 : Label} {k0 : (List Label) → Option ((List Label))} {fu : Nat} {v5 : List Label} {v6 : Int} {m0 : Nat} {st st' : St} (hz : Sf62_3.ok p = true) (h1 : st.norm Sf62_3 = some st') (h2 : st'.cutOk Sf62_3.keep Sf62_3.bs (memB Sf62_3.bs) = true) (h3 : vals Sf62_3.keep st'.e = V2f62_3 a0 a1 v5 v6 m0) (h4 : blks Sf62_3.bs st'.m = B2f62_3 a0 a1 v5 v6 m0) (em0 : m0 = List.length v5)
    (h : ∀ (n : Nat) (v5 : List Label) (v6 : Int), f62_3b (f62_3 a0 a1 k0 n) a0 a1 k0 v5 v6 = some r → vc c p nid a (St.mk' Sf62_3 (Vf62_3 a0 a1 v5 v6) (Bf62_3 a0 a1 v5 v6)) (Kloop Sf62_3 (fun y : Nat × (List Label) × Int => Vf62_3 a0 a1 y.2.1 y.2.2) (fun y : Nat × (List Label) × Int => Bf62_3 a0 a1 y.2.1 y.2.2) (fun y : Nat × (List Label) × Int => f62_3 a0 a1 k0 y.1 y.2.1 y.2.2 = some r) (fun y : Nat × (List Label) × Int => y.1) (n + 1, v5, v6) K)) (hF : f62_3 a0 a1 k0 fu v5 v6 = some r) : vc c p nid (.loop a) st K := by
  subst em0; refine vc_loop Sf62_3 (fun y : Nat × (List Label) × Int => Vf62_3 a0 a1 y.2.1 y.2.2) (fun y : Nat × (List Label) × Int => Bf62_3 a0 a1 y.2.1 y.2.2) (fun y : Nat × (List Label) × Int => f62_3 a0 a1 k0 y.1 y.2.1 y.2.2 = some r) (fun y : Nat × (List Label) × Int => y.1) hz (head_in (x := (fu, v5, v6)) hF h1 h2 h3 h4) ?_
  rintro ⟨_ | n, v5, v6⟩ hI
  · cases hI
  · exact h n v5 v6 hI
theorem Mf62_3 {K : Ex → St → Prop} {r : (List Label)} {a0 : List Label} {a1 : Label} {k0 : (List Label) → Option ((List Label))} {n : Nat} {v5 : List Label} {v6 : Int} {v5_ : List Label} {v6_ : Int} {m0 : Nat} {st st' : St} (hF : f62_3 a0 a1 k0 n v5 v6 = some r) (h1 : st.norm Sf62_3 = some st') (h2 : st'.cutOk Sf62_3.keep Sf62_3.bs (memB Sf62_3.bs) = true) (h3 : vals Sf62_3.keep st'.e = V2f62_3 a0 a1 v5 v6 m0) (h4 : blks Sf62_3.bs st'.m = B2f62_3 a0 a1 v5 v6 m0) (em0 : m0 = List.length v5) :
    Kloop Sf62_3 (fun y : Nat × (List Label) × Int => Vf62_3 a0 a1 y.2.1 y.2.2) (fun y : Nat × (List Label) × Int => Bf62_3 a0 a1 y.2.1 y.2.2) (fun y : Nat × (List Label) × Int => f62_3 a0 a1 k0 y.1 y.2.1 y.2.2 = some r) (fun y : Nat × (List Label) × Int => y.1) (n + 1, v5_, v6_) K .normal st := by
  subst em0; exact head_back (y := (n, v5, v6)) hF (Nat.lt_succ_self n) h1 h2 h3 h4
def f62 (N : Nat) (a0 : List Label) (a1 : Label) : Option ((List Label)) :=
 joinK f62_c7 fun k0 =>
 f62_3 a0 a1 k0 N [] (0 : Int)
def G62 (ds : List D) (d : D) : Prop := ∃ (N : Nat) (a0 : List Label) (a1 : Label) (r : (List Label)), ds = [sl_Label a0, Label.d a1] ∧ f62 N a0 a1 = some r ∧ d = sl_Label r
theorem G62.step {N : Nat} {a0 : List Label} {a1 : Label} {ρ : Type} {A : (List Label) → Option ρ} {q : ρ} {ds : List D} {K : D → Prop} (hd : ds = [sl_Label a0, Label.d a1]) (h : ∀ r, A r = some q → K (sl_Label r)) (hF : (f62 N a0 a1).bind A = some q) : ∃ d, G62 ds d ∧ K d := by
  obtain ⟨r, hr, hA⟩ := bind_some hF
  exact ⟨_, ⟨N, a0, a1, r, hd, hr, rfl⟩, h r hA⟩
set_option maxRecDepth 20000 in
set_option maxHeartbeats 4000000 in
theorem P62 : PureOK Try.prog 62 G62 := by
  refine pure_of_vc (c := mkCtx tyTree []) rfl tyOK (ctx_nil) [[4]] 2 Try.func62 rfl rfl (by decide) (by kernel_rfl) ?_
  rintro ds d ⟨N, a0, a1, r, rfl, hF, rfl⟩ hok
  clear hok
  refine ⟨rfl, ?_⟩
  show vc _ _ _ _ ⟨[(0, .dat (sl_Label a0)), (1, .dat (Label.d a1))], []⟩ _
  unfold f62 at hF
  repeat' (first
    | ((with_reducible refine q0 _ _ ?_); clear Q q0 q1 q2)
    | ((with_reducible refine q1 _ _ _ _ ?_); clear Q q0 q1 q2)
    | ((with_reducible refine q2 _ _ _ ?_); clear Q q0 q1 q2)
    | ((with_reducible refine seq_op ?hx (fun Q q0 q1 q2 => ?_)); (case hx => exact rfl); conv => whnf)
    | ((with_reducible refine draw_op ?hx (fun Q q0 q1 q2 => ?_)); (case hx => exact rfl); conv => whnf)
    | ((with_reducible refine seq_op0 ?hx (fun Q q0 q1 q2 => ?_)); (case hx => exact rfl); conv => whnf)
    | ((with_reducible refine draw_op0 ?hx (fun Q q0 q1 q2 => ?_)); (case hx => exact rfl); conv => whnf)
    | ((with_reducible refine seq_off ?hx ?_); (case hx => exact rfl))
    | ((with_reducible refine seq_off0 ?hx ?_); (case hx => exact rfl))
    | ((with_reducible refine draw_off ?hx ?_); (case hx => exact rfl))
    | ((with_reducible refine draw_off0 ?hx ?_); (case hx => exact rfl))
    | ((with_reducible refine seq_id ?_); (first | ((refine seq_opK rfl ?hy (fun Q q0 q1 q2 => ?_)); (case hy => first | assumption | exact notT (by assumption) | exact rfl); conv => whnf) | ((refine seq_offK rfl ?hy ?_); (case hy => first | assumption | exact notF (by assumption) | exact rfl)) | ((refine seq_opK0 rfl ?hy (fun Q q0 q1 q2 => ?_)); (case hy => first | assumption | exact notT (by assumption) | exact rfl); conv => whnf) | ((refine seq_offK0 rfl ?hy ?_); (case hy => first | assumption | exact notF (by assumption) | exact rfl)) | (revert hF; (with_reducible refine seq_opF ?hx ?_ ?_); (case hx => exact rfl); (intro hc hF Q q0 q1 q2; conv => whnf); rotate_left; (intro hc hF); rotate_right) | (revert hF; (with_reducible refine seq_opN ?hx ?_ ?_); (case hx => exact rfl); (intro hc hF); rotate_left; (intro hc hF Q q0 q1 q2; conv => whnf); rotate_right) | (revert hF; (with_reducible refine seq_opF0 ?hx ?_ ?_); (case hx => exact rfl); (intro hc hF Q q0 q1 q2; conv => whnf); rotate_left; (intro hc hF); rotate_right) | (revert hF; (with_reducible refine seq_opN0 ?hx ?_ ?_); (case hx => exact rfl); (intro hc hF); rotate_left; (intro hc hF Q q0 q1 q2; conv => whnf); rotate_right)))
    | ((with_reducible refine draw_id ?_); (first | ((refine draw_opK rfl ?hy (fun Q q0 q1 q2 => ?_)); (case hy => first | assumption | exact notT (by assumption) | exact rfl); conv => whnf) | ((refine draw_offK rfl ?hy ?_); (case hy => first | assumption | exact notF (by assumption) | exact rfl)) | ((refine draw_opK0 rfl ?hy (fun Q q0 q1 q2 => ?_)); (case hy => first | assumption | exact notT (by assumption) | exact rfl); conv => whnf) | ((refine draw_offK0 rfl ?hy ?_); (case hy => first | assumption | exact notF (by assumption) | exact rfl)) | (revert hF; (with_reducible refine draw_opF ?hx ?_ ?_); (case hx => exact rfl); (intro hc hF Q q0 q1 q2; conv => whnf); rotate_left; (intro hc hF); rotate_right) | (revert hF; (with_reducible refine draw_opN ?hx ?_ ?_); (case hx => exact rfl); (intro hc hF); rotate_left; (intro hc hF Q q0 q1 q2; conv => whnf); rotate_right) | (revert hF; (with_reducible refine draw_opF0 ?hx ?_ ?_); (case hx => exact rfl); (intro hc hF Q q0 q1 q2; conv => whnf); rotate_left; (intro hc hF); rotate_right) | (revert hF; (with_reducible refine draw_opN0 ?hx ?_ ?_); (case hx => exact rfl); (intro hc hF); rotate_left; (intro hc hF Q q0 q1 q2; conv => whnf); rotate_right)))
    | ((with_reducible refine cond_id ?_); (first | ((refine condKT rfl ?hy ?_); (case hy => first | assumption | exact notT (by assumption) | exact rfl)) | ((refine condKF rfl ?hy ?_); (case hy => first | assumption | exact notF (by assumption) | exact rfl)) | (revert hF; (with_reducible refine condF ?hx ?_ ?_); (case hx => exact rfl); all_goals (intro hc hF))))
    | ((with_reducible refine seq_nil ?_); (first | ((with_reducible refine hR _ ?_); clear R hR) | ((with_reducible refine hL _ ?_); clear L hL)))
    | ((with_reducible refine draw_nil ?_); (with_reducible refine hR _ _ ?hx ?_); (case hx => kernel_rfl); (first | clear R hR | clear hR))
    | ((with_reducible refine int_step ?_); conv => whnf)
    | ((with_reducible refine len_step ?_); conv => whnf)
    | ((with_reducible refine idx2 (by assumption) ?_); conv => whnf)
    | ((with_reducible refine idx3 (by assumption) ?_); conv => whnf)
    | with_reducible refine vc_block ?_
    | with_reducible refine vc_skip ?_
    | with_reducible refine vc_ret ?_
    | with_reducible refine vc_exit ?_
    | ((with_reducible refine vc_seqN [7] ?hx ?_); (case hx => exact rfl))
    | (with_reducible refine vc_region (fun R hR => ?_))
    | ((with_reducible refine vc_draw ?hx (fun R hR => ?_)); (case hx => exact rfl))
    | fail
    | (revert hF; (refine Cf62_c7 rfl rfl ?_ ?_); (intro hF); rotate_left; (intro v5 hF; unfold f62_c7 at hF); rotate_right)
    | exact Zf62_c7 hF rfl rfl rfl rfl (by first | exact rfl | assumption | omega)
    | (revert hF; (refine Lf62_3 rfl rfl rfl rfl rfl (by first | exact rfl | assumption | omega) ?_); intro n v5 v6 hF; unfold f62_3b at hF)
    | exact Mf62_3 hF rfl rfl rfl rfl (by first | exact rfl | assumption | omega)
    | with_reducible refine k_seq_ret ?_
    | with_reducible refine k_seq_exit ?_
    | with_reducible refine k_blk ?_
    | with_reducible refine k_blk_ret ?_
    | with_reducible refine k_blk_here ?_
    | ((with_reducible refine k_blk_out ?hx ?_); (case hx => exact rfl))
    | with_reducible refine k_loop_ret ?_
    | with_reducible refine k_loop_exit ?_
    | (revert hF; (with_reducible refine idx1 ?hn ?_); (case hn => first | exact rfl | exact (List.length_map _) | assumption | omega | simp); intro x hx hF; conv => whnf)
    | ((with_reducible have hG := sub_fact hF); clear hF; (first | (refine sub_step hG (fun q hF => ?_)) | (refine subrow_step hG ?hn (fun q hF => ?_); (case hn => first | exact rfl | assumption | omega))); clear hG; conv => whnf)
    | ((with_reducible have hG := app_fact hF); clear hF; (first | ((refine app_row hG ?hn ?hs (fun q hF => ?_)); (case hn => first | exact rfl | assumption | omega); (case hs => exact rfl)) | ((refine app_nil (d := Label.d) hG ?hs (fun q hF => ?_)); (case hs => exact rfl)) | ((refine app_gen (d := Label.d) hG ?ho ?hn ?hs (fun q hF => ?_)); (case ho => exact rfl); (case hn => exact rfl); (case hs => exact rfl))); clear hG; conv => whnf)
    | ((refine row_all ?hn ?_); (case hn => first | exact rfl | (simp; done) | (simp; omega)); conv => whnf)
    | ((with_reducible refine le_step ?hn ?_); (case hn => first | exact rfl | assumption | omega); conv => whnf)
    | ((with_reducible have hG := setx_fact hF); clear hF; (refine setx_step hG ?hs (fun q hl hF => ?_)); (case hs => exact rfl); clear hG; conv => whnf)
    | (revert hF; (with_reducible refine dem_step ?_ ?_); (intro hl hF; conv => whnf); rotate_left; (intro hF; conv => whnf); rotate_right)
    | ((refine ⟨?hx, ?_⟩); (case hx => exact ⟨rfl, Nat.le_of_ble_eq_true rfl, rfl⟩); conv => whnf)
    | ((with_reducible refine ex_step ?_); conv => whnf)
    | ((with_reducible have hG := chk_fact hF); clear hF; (refine ⟨?hx, ?_⟩); (case hx => (first | exact of_decide_eq_true hG.1 | exact hG.1)); have hF := hG.2; clear hG; conv => whnf)
    | ((with_reducible refine both_T ?hx ?_); (case hx => first | exact rfl | assumption | exact notT (by assumption)); conv => whnf)
    | ((with_reducible refine both_F ?hx ?_); (case hx => first | exact rfl | assumption | exact notF (by assumption)); conv => whnf)
    | (revert hF; (with_reducible refine ite_step ?_ ?_) <;> (intro hc hF; conv => whnf))
    | ((with_reducible refine vc_condT ?hx ?_); (case hx => exact rfl))
    | ((with_reducible refine vc_condF ?hx ?_); (case hx => exact rfl))
    | (show retD _ _ _ _ _ _; conv => whnf)
    | ((refine inl_step ?ha ?hb ?hc rfl ?_); (case ha => exact rfl); (case hb => omega); (case hc => exact Nat.le_of_ble_eq_true rfl))
    | (show Kinl _ _ _ _ _ _ _; conv => whnf)
    | ((with_reducible refine kinl_step ?ha ?hb ?_); (case ha => exact rfl); (case hb => exact rfl); conv => whnf)
    | ((refine ⟨?hx, trivial⟩); (case hx => (cases hF; exact rfl)))
    | ((refine ⟨?hx, ?_⟩); (case hx => decide); conv => whnf)
    | ((with_reducible refine k_seq ?_))
    | (have hF : (none : Option _) = some _ := hF; cases hF))
end Go.Vc
namespace Go.Vc
open Go.Proofs
set_option linter.unusedVariables false
set_option linter.unnecessarySimpa false
set_option linter.unusedSimpArgs false
/- f64: tusche/tuscheref06.halves -/
def f64 (N : Nat) (a0 : Label) (a1 : Cut) : Option (Label × Label × Bool) :=
 bif a1.Up then ((f56 N a1.At (W (a0.X + (1 : Int))) (W ((W (a0.X + a0.W)) - (1 : Int)))).bind fun x1 =>
 some ((Label.mk a0.X a0.Y (W (a1.At - a0.X)) a0.H), (Label.mk a1.At a0.Y (W ((W (a0.X + a0.W)) - a1.At)) a0.H), x1))
 else ((f56 N a1.At (W (a0.Y + (1 : Int))) (W ((W (a0.Y + a0.H)) - (1 : Int)))).bind fun x2 =>
 some ((Label.mk a0.X a0.Y a0.W (W (a1.At - a0.Y))), (Label.mk a0.X a1.At a0.W (W ((W (a0.Y + a0.H)) - a1.At))), x2))
def G64 (ds : List D) (d : D) : Prop := ∃ (N : Nat) (a0 : Label) (a1 : Cut) (r : Label × Label × Bool), ds = [Label.d a0, Cut.d a1] ∧ f64 N a0 a1 = some r ∧ d = .tup [Label.d r.1, Label.d r.2.1, bN r.2.2]
theorem G64.step {N : Nat} {a0 : Label} {a1 : Cut} {ρ : Type} {A : (Label × Label × Bool) → Option ρ} {q : ρ} {ds : List D} {K : D → Prop} (hd : ds = [Label.d a0, Cut.d a1]) (h : ∀ r, A r = some q → K (.tup [Label.d r.1, Label.d r.2.1, bN r.2.2])) (hF : (f64 N a0 a1).bind A = some q) : ∃ d, G64 ds d ∧ K d := by
  obtain ⟨r, hr, hA⟩ := bind_some hF
  exact ⟨_, ⟨N, a0, a1, r, hd, hr, rfl⟩, h r hA⟩
set_option maxRecDepth 20000 in
set_option maxHeartbeats 4000000 in
theorem P64 : PureOK Try.prog 64 G64 := by
  refine pure_of_vc (c := mkCtx tyTree [(56, true, purePg [[0], [0], [0]] G56)]) rfl tyOK (ctx_cons (callable Try.func56 rfl rfl) P56 (ctx_nil)) [[0, 0, 0, 0], [0, 0, 0, 0], [0]] 2 Try.func64 rfl rfl (by decide) (by kernel_rfl) ?_
  rintro ds d ⟨N, a0, a1, r, rfl, hF, rfl⟩ hok
  clear hok
  refine ⟨rfl, ?_⟩
  show vc _ _ _ _ ⟨[(0, .dat (Label.d a0)), (1, .dat (Cut.d a1))], []⟩ _
  unfold f64 at hF
  repeat' (first
    | ((with_reducible refine q0 _ _ ?_); clear Q q0 q1 q2)
    | ((with_reducible refine q1 _ _ _ _ ?_); clear Q q0 q1 q2)
    | ((with_reducible refine q2 _ _ _ ?_); clear Q q0 q1 q2)
    | ((with_reducible refine seq_op ?hx (fun Q q0 q1 q2 => ?_)); (case hx => exact rfl); conv => whnf)
    | ((with_reducible refine draw_op ?hx (fun Q q0 q1 q2 => ?_)); (case hx => exact rfl); conv => whnf)
    | ((with_reducible refine seq_op0 ?hx (fun Q q0 q1 q2 => ?_)); (case hx => exact rfl); conv => whnf)
    | ((with_reducible refine draw_op0 ?hx (fun Q q0 q1 q2 => ?_)); (case hx => exact rfl); conv => whnf)
    | ((with_reducible refine seq_off ?hx ?_); (case hx => exact rfl))
    | ((with_reducible refine seq_off0 ?hx ?_); (case hx => exact rfl))
    | ((with_reducible refine draw_off ?hx ?_); (case hx => exact rfl))
    | ((with_reducible refine draw_off0 ?hx ?_); (case hx => exact rfl))
    | ((with_reducible refine seq_id ?_); (first | ((refine seq_opK rfl ?hy (fun Q q0 q1 q2 => ?_)); (case hy => first | assumption | exact notT (by assumption) | exact rfl); conv => whnf) | ((refine seq_offK rfl ?hy ?_); (case hy => first | assumption | exact notF (by assumption) | exact rfl)) | ((refine seq_opK0 rfl ?hy (fun Q q0 q1 q2 => ?_)); (case hy => first | assumption | exact notT (by assumption) | exact rfl); conv => whnf) | ((refine seq_offK0 rfl ?hy ?_); (case hy => first | assumption | exact notF (by assumption) | exact rfl)) | (revert hF; (with_reducible refine seq_opF ?hx ?_ ?_); (case hx => exact rfl); (intro hc hF Q q0 q1 q2; conv => whnf); rotate_left; (intro hc hF); rotate_right) | (revert hF; (with_reducible refine seq_opN ?hx ?_ ?_); (case hx => exact rfl); (intro hc hF); rotate_left; (intro hc hF Q q0 q1 q2; conv => whnf); rotate_right) | (revert hF; (with_reducible refine seq_opF0 ?hx ?_ ?_); (case hx => exact rfl); (intro hc hF Q q0 q1 q2; conv => whnf); rotate_left; (intro hc hF); rotate_right) | (revert hF; (with_reducible refine seq_opN0 ?hx ?_ ?_); (case hx => exact rfl); (intro hc hF); rotate_left; (intro hc hF Q q0 q1 q2; conv => whnf); rotate_right)))
    | ((with_reducible refine draw_id ?_); (first | ((refine draw_opK rfl ?hy (fun Q q0 q1 q2 => ?_)); (case hy => first | assumption | exact notT (by assumption) | exact rfl); conv => whnf) | ((refine draw_offK rfl ?hy ?_); (case hy => first | assumption | exact notF (by assumption) | exact rfl)) | ((refine draw_opK0 rfl ?hy (fun Q q0 q1 q2 => ?_)); (case hy => first | assumption | exact notT (by assumption) | exact rfl); conv => whnf) | ((refine draw_offK0 rfl ?hy ?_); (case hy => first | assumption | exact notF (by assumption) | exact rfl)) | (revert hF; (with_reducible refine draw_opF ?hx ?_ ?_); (case hx => exact rfl); (intro hc hF Q q0 q1 q2; conv => whnf); rotate_left; (intro hc hF); rotate_right) | (revert hF; (with_reducible refine draw_opN ?hx ?_ ?_); (case hx => exact rfl); (intro hc hF); rotate_left; (intro hc hF Q q0 q1 q2; conv => whnf); rotate_right) | (revert hF; (with_reducible refine draw_opF0 ?hx ?_ ?_); (case hx => exact rfl); (intro hc hF Q q0 q1 q2; conv => whnf); rotate_left; (intro hc hF); rotate_right) | (revert hF; (with_reducible refine draw_opN0 ?hx ?_ ?_); (case hx => exact rfl); (intro hc hF); rotate_left; (intro hc hF Q q0 q1 q2; conv => whnf); rotate_right)))
    | ((with_reducible refine cond_id ?_); (first | ((refine condKT rfl ?hy ?_); (case hy => first | assumption | exact notT (by assumption) | exact rfl)) | ((refine condKF rfl ?hy ?_); (case hy => first | assumption | exact notF (by assumption) | exact rfl)) | (revert hF; (with_reducible refine condF ?hx ?_ ?_); (case hx => exact rfl); all_goals (intro hc hF))))
    | ((with_reducible refine seq_nil ?_); (first | ((with_reducible refine hR _ ?_); clear R hR) | ((with_reducible refine hL _ ?_); clear L hL)))
    | ((with_reducible refine draw_nil ?_); (with_reducible refine hR _ _ ?hx ?_); (case hx => kernel_rfl); (first | clear R hR | clear hR))
    | ((with_reducible refine int_step ?_); conv => whnf)
    | ((with_reducible refine len_step ?_); conv => whnf)
    | ((with_reducible refine idx2 (by assumption) ?_); conv => whnf)
    | ((with_reducible refine idx3 (by assumption) ?_); conv => whnf)
    | with_reducible refine vc_block ?_
    | with_reducible refine vc_skip ?_
    | with_reducible refine vc_ret ?_
    | with_reducible refine vc_exit ?_
    | ((with_reducible refine vc_seqN [] ?hx ?_); (case hx => exact rfl))
    | (with_reducible refine vc_region (fun R hR => ?_))
    | ((with_reducible refine vc_draw ?hx (fun R hR => ?_)); (case hx => exact rfl))
    | fail
    | (revert hF; (with_reducible refine G56.step ?hx ?_); (case hx => exact rfl); intro v hF; conv => whnf)
    | with_reducible refine k_seq_ret ?_
    | with_reducible refine k_seq_exit ?_
    | with_reducible refine k_blk ?_
    | with_reducible refine k_blk_ret ?_
    | with_reducible refine k_blk_here ?_
    | ((with_reducible refine k_blk_out ?hx ?_); (case hx => exact rfl))
    | with_reducible refine k_loop_ret ?_
    | with_reducible refine k_loop_exit ?_
    | (revert hF; (with_reducible refine idx1 ?hn ?_); (case hn => first | exact rfl | exact (List.length_map _) | assumption | omega | simp); intro x hx hF; conv => whnf)
    | ((with_reducible have hG := sub_fact hF); clear hF; (first | (refine sub_step hG (fun q hF => ?_)) | (refine subrow_step hG ?hn (fun q hF => ?_); (case hn => first | exact rfl | assumption | omega))); clear hG; conv => whnf)
    | ((with_reducible have hG := app_fact hF); clear hF; (first | ((refine app_row hG ?hn ?hs (fun q hF => ?_)); (case hn => first | exact rfl | assumption | omega); (case hs => exact rfl)) ); clear hG; conv => whnf)
    | ((refine row_all ?hn ?_); (case hn => first | exact rfl | (simp; done) | (simp; omega)); conv => whnf)
    | ((with_reducible refine le_step ?hn ?_); (case hn => first | exact rfl | assumption | omega); conv => whnf)
    | ((with_reducible have hG := setx_fact hF); clear hF; (refine setx_step hG ?hs (fun q hl hF => ?_)); (case hs => exact rfl); clear hG; conv => whnf)
    | (revert hF; (with_reducible refine dem_step ?_ ?_); (intro hl hF; conv => whnf); rotate_left; (intro hF; conv => whnf); rotate_right)
    | ((refine ⟨?hx, ?_⟩); (case hx => exact ⟨rfl, Nat.le_of_ble_eq_true rfl, rfl⟩); conv => whnf)
    | ((with_reducible refine ex_step ?_); conv => whnf)
    | ((with_reducible have hG := chk_fact hF); clear hF; (refine ⟨?hx, ?_⟩); (case hx => (first | exact of_decide_eq_true hG.1 | exact hG.1)); have hF := hG.2; clear hG; conv => whnf)
    | ((with_reducible refine both_T ?hx ?_); (case hx => first | exact rfl | assumption | exact notT (by assumption)); conv => whnf)
    | ((with_reducible refine both_F ?hx ?_); (case hx => first | exact rfl | assumption | exact notF (by assumption)); conv => whnf)
    | (revert hF; (with_reducible refine ite_step ?_ ?_) <;> (intro hc hF; conv => whnf))
    | ((with_reducible refine vc_condT ?hx ?_); (case hx => exact rfl))
    | ((with_reducible refine vc_condF ?hx ?_); (case hx => exact rfl))
    | (show retD _ _ _ _ _ _; conv => whnf)
    | ((refine inl_step ?ha ?hb ?hc rfl ?_); (case ha => exact rfl); (case hb => omega); (case hc => exact Nat.le_of_ble_eq_true rfl))
    | (show Kinl _ _ _ _ _ _ _; conv => whnf)
    | ((with_reducible refine kinl_step ?ha ?hb ?_); (case ha => exact rfl); (case hb => exact rfl); conv => whnf)
    | ((refine ⟨?hx, trivial⟩); (case hx => (cases hF; exact rfl)))
    | ((refine ⟨?hx, ?_⟩); (case hx => decide); conv => whnf)
    | ((with_reducible refine k_seq ?_))
    | (have hF : (none : Option _) = some _ := hF; cases hF))
end Go.Vc
namespace Go.Vc
open Go.Proofs
set_option linter.unusedVariables false
set_option linter.unnecessarySimpa false
set_option linter.unusedSimpArgs false
/- f63: tusche/tuscheref06.good -/
def f63 (N : Nat) (a0 : List Label) (a1 : Label) (a2 : Cut) : Option (Bool) :=
 (f64 N a1 a2).bind fun x1 =>
 bif !x1.2.2 then (some (false))
 else ((f62 N a0 x1.1).bind fun x2 =>
 (f62 N a0 x1.2.1).bind fun x3 =>
 bif decide ((0 : Int) < (List.length x2 : Int)) then (bif decide ((0 : Int) < (List.length x3 : Int)) then (some (decide ((W ((List.length x2 : Int) + (List.length x3 : Int))) = (List.length a0 : Int))))
 else (some (false)))
 else (some (false)))
def G63 (ds : List D) (d : D) : Prop := ∃ (N : Nat) (a0 : List Label) (a1 : Label) (a2 : Cut) (r : Bool), ds = [sl_Label a0, Label.d a1, Cut.d a2] ∧ f63 N a0 a1 a2 = some r ∧ d = bN r
theorem G63.step {N : Nat} {a0 : List Label} {a1 : Label} {a2 : Cut} {ρ : Type} {A : Bool → Option ρ} {q : ρ} {ds : List D} {K : D → Prop} (hd : ds = [sl_Label a0, Label.d a1, Cut.d a2]) (h : ∀ r, A r = some q → K (bN r)) (hF : (f63 N a0 a1 a2).bind A = some q) : ∃ d, G63 ds d ∧ K d := by
  obtain ⟨r, hr, hA⟩ := bind_some hF
  exact ⟨_, ⟨N, a0, a1, a2, r, hd, hr, rfl⟩, h r hA⟩
set_option maxRecDepth 20000 in
set_option maxHeartbeats 4000000 in
theorem P63 : PureOK Try.prog 63 G63 := by
  refine pure_of_vc (c := mkCtx tyTree [(64, true, purePg [[0, 0, 0, 0], [0, 0]] G64), (62, true, purePg [[4], [0, 0, 0, 0]] G62)]) rfl tyOK (ctx_cons (callable Try.func64 rfl rfl) P64 (ctx_cons (callable Try.func62 rfl rfl) P62 (ctx_nil))) [[0]] 3 Try.func63 rfl rfl (by decide) (by kernel_rfl) ?_
  rintro ds d ⟨N, a0, a1, a2, r, rfl, hF, rfl⟩ hok
  clear hok
  refine ⟨rfl, ?_⟩
  show vc _ _ _ _ ⟨[(0, .dat (sl_Label a0)), (1, .dat (Label.d a1)), (2, .dat (Cut.d a2))], []⟩ _
  unfold f63 at hF
  repeat' (first
    | ((with_reducible refine q0 _ _ ?_); clear Q q0 q1 q2)
    | ((with_reducible refine q1 _ _ _ _ ?_); clear Q q0 q1 q2)
    | ((with_reducible refine q2 _ _ _ ?_); clear Q q0 q1 q2)
    | ((with_reducible refine seq_op ?hx (fun Q q0 q1 q2 => ?_)); (case hx => exact rfl); conv => whnf)
    | ((with_reducible refine draw_op ?hx (fun Q q0 q1 q2 => ?_)); (case hx => exact rfl); conv => whnf)
    | ((with_reducible refine seq_op0 ?hx (fun Q q0 q1 q2 => ?_)); (case hx => exact rfl); conv => whnf)
    | ((with_reducible refine draw_op0 ?hx (fun Q q0 q1 q2 => ?_)); (case hx => exact rfl); conv => whnf)
    | ((with_reducible refine seq_off ?hx ?_); (case hx => exact rfl))
    | ((with_reducible refine seq_off0 ?hx ?_); (case hx => exact rfl))
    | ((with_reducible refine draw_off ?hx ?_); (case hx => exact rfl))
    | ((with_reducible refine draw_off0 ?hx ?_); (case hx => exact rfl))
    | ((with_reducible refine seq_id ?_); (first | ((refine seq_opK rfl ?hy (fun Q q0 q1 q2 => ?_)); (case hy => first | assumption | exact notT (by assumption) | exact rfl); conv => whnf) | ((refine seq_offK rfl ?hy ?_); (case hy => first | assumption | exact notF (by assumption) | exact rfl)) | ((refine seq_opK0 rfl ?hy (fun Q q0 q1 q2 => ?_)); (case hy => first | assumption | exact notT (by assumption) | exact rfl); conv => whnf) | ((refine seq_offK0 rfl ?hy ?_); (case hy => first | assumption | exact notF (by assumption) | exact rfl)) | (revert hF; (with_reducible refine seq_opF ?hx ?_ ?_); (case hx => exact rfl); (intro hc hF Q q0 q1 q2; conv => whnf); rotate_left; (intro hc hF); rotate_right) | (revert hF; (with_reducible refine seq_opN ?hx ?_ ?_); (case hx => exact rfl); (intro hc hF); rotate_left; (intro hc hF Q q0 q1 q2; conv => whnf); rotate_right) | (revert hF; (with_reducible refine seq_opF0 ?hx ?_ ?_); (case hx => exact rfl); (intro hc hF Q q0 q1 q2; conv => whnf); rotate_left; (intro hc hF); rotate_right) | (revert hF; (with_reducible refine seq_opN0 ?hx ?_ ?_); (case hx => exact rfl); (intro hc hF); rotate_left; (intro hc hF Q q0 q1 q2; conv => whnf); rotate_right)))
    | ((with_reducible refine draw_id ?_); (first | ((refine draw_opK rfl ?hy (fun Q q0 q1 q2 => ?_)); (case hy => first | assumption | exact notT (by assumption) | exact rfl); conv => whnf) | ((refine draw_offK rfl ?hy ?_); (case hy => first | assumption | exact notF (by assumption) | exact rfl)) | ((refine draw_opK0 rfl ?hy (fun Q q0 q1 q2 => ?_)); (case hy => first | assumption | exact notT (by assumption) | exact rfl); conv => whnf) | ((refine draw_offK0 rfl ?hy ?_); (case hy => first | assumption | exact notF (by assumption) | exact rfl)) | (revert hF; (with_reducible refine draw_opF ?hx ?_ ?_); (case hx => exact rfl); (intro hc hF Q q0 q1 q2; conv => whnf); rotate_left; (intro hc hF); rotate_right) | (revert hF; (with_reducible refine draw_opN ?hx ?_ ?_); (case hx => exact rfl); (intro hc hF); rotate_left; (intro hc hF Q q0 q1 q2; conv => whnf); rotate_right) | (revert hF; (with_reducible refine draw_opF0 ?hx ?_ ?_); (case hx => exact rfl); (intro hc hF Q q0 q1 q2; conv => whnf); rotate_left; (intro hc hF); rotate_right) | (revert hF; (with_reducible refine draw_opN0 ?hx ?_ ?_); (case hx => exact rfl); (intro hc hF); rotate_left; (intro hc hF Q q0 q1 q2; conv => whnf); rotate_right)))
    | ((with_reducible refine cond_id ?_); (first | ((refine condKT rfl ?hy ?_); (case hy => first | assumption | exact notT (by assumption) | exact rfl)) | ((refine condKF rfl ?hy ?_); (case hy => first | assumption | exact notF (by assumption) | exact rfl)) | (revert hF; (with_reducible refine condF ?hx ?_ ?_); (case hx => exact rfl); all_goals (intro hc hF))))
    | ((with_reducible refine seq_nil ?_); (first | ((with_reducible refine hR _ ?_); clear R hR) | ((with_reducible refine hL _ ?_); clear L hL)))
    | ((with_reducible refine draw_nil ?_); (with_reducible refine hR _ _ ?hx ?_); (case hx => kernel_rfl); (first | clear R hR | clear hR))
    | ((with_reducible refine int_step ?_); conv => whnf)
    | ((with_reducible refine len_step ?_); conv => whnf)
    | ((with_reducible refine idx2 (by assumption) ?_); conv => whnf)
    | ((with_reducible refine idx3 (by assumption) ?_); conv => whnf)
    | with_reducible refine vc_block ?_
    | with_reducible refine vc_skip ?_
    | with_reducible refine vc_ret ?_
    | with_reducible refine vc_exit ?_
    | ((with_reducible refine vc_seqN [] ?hx ?_); (case hx => exact rfl))
    | (with_reducible refine vc_region (fun R hR => ?_))
    | ((with_reducible refine vc_draw ?hx (fun R hR => ?_)); (case hx => exact rfl))
    | fail
    | (revert hF; (with_reducible refine G62.step ?hx ?_); (case hx => exact rfl); intro v hF; conv => whnf)
    | (revert hF; (with_reducible refine G64.step ?hx ?_); (case hx => exact rfl); intro v hF; conv => whnf)
    | with_reducible refine k_seq_ret ?_
    | with_reducible refine k_seq_exit ?_
    | with_reducible refine k_blk ?_
    | with_reducible refine k_blk_ret ?_
    | with_reducible refine k_blk_here ?_
    | ((with_reducible refine k_blk_out ?hx ?_); (case hx => exact rfl))
    | with_reducible refine k_loop_ret ?_
    | with_reducible refine k_loop_exit ?_
    | (revert hF; (with_reducible refine idx1 ?hn ?_); (case hn => first | exact rfl | exact (List.length_map _) | assumption | omega | simp); intro x hx hF; conv => whnf)
    | ((with_reducible have hG := sub_fact hF); clear hF; (first | (refine sub_step hG (fun q hF => ?_)) | (refine subrow_step hG ?hn (fun q hF => ?_); (case hn => first | exact rfl | assumption | omega))); clear hG; conv => whnf)
    | ((with_reducible have hG := app_fact hF); clear hF; (first | ((refine app_row hG ?hn ?hs (fun q hF => ?_)); (case hn => first | exact rfl | assumption | omega); (case hs => exact rfl)) ); clear hG; conv => whnf)
    | ((refine row_all ?hn ?_); (case hn => first | exact rfl | (simp; done) | (simp; omega)); conv => whnf)
    | ((with_reducible refine le_step ?hn ?_); (case hn => first | exact rfl | assumption | omega); conv => whnf)
    | ((with_reducible have hG := setx_fact hF); clear hF; (refine setx_step hG ?hs (fun q hl hF => ?_)); (case hs => exact rfl); clear hG; conv => whnf)
    | (revert hF; (with_reducible refine dem_step ?_ ?_); (intro hl hF; conv => whnf); rotate_left; (intro hF; conv => whnf); rotate_right)
    | ((refine ⟨?hx, ?_⟩); (case hx => exact ⟨rfl, Nat.le_of_ble_eq_true rfl, rfl⟩); conv => whnf)
    | ((with_reducible refine ex_step ?_); conv => whnf)
    | ((with_reducible have hG := chk_fact hF); clear hF; (refine ⟨?hx, ?_⟩); (case hx => (first | exact of_decide_eq_true hG.1 | exact hG.1)); have hF := hG.2; clear hG; conv => whnf)
    | ((with_reducible refine both_T ?hx ?_); (case hx => first | exact rfl | assumption | exact notT (by assumption)); conv => whnf)
    | ((with_reducible refine both_F ?hx ?_); (case hx => first | exact rfl | assumption | exact notF (by assumption)); conv => whnf)
    | (revert hF; (with_reducible refine ite_step ?_ ?_) <;> (intro hc hF; conv => whnf))
    | ((with_reducible refine vc_condT ?hx ?_); (case hx => exact rfl))
    | ((with_reducible refine vc_condF ?hx ?_); (case hx => exact rfl))
    | (show retD _ _ _ _ _ _; conv => whnf)
    | ((refine inl_step ?ha ?hb ?hc rfl ?_); (case ha => exact rfl); (case hb => omega); (case hc => exact Nat.le_of_ble_eq_true rfl))
    | (show Kinl _ _ _ _ _ _ _; conv => whnf)
    | ((with_reducible refine kinl_step ?ha ?hb ?_); (case ha => exact rfl); (case hb => exact rfl); conv => whnf)
    | ((refine ⟨?hx, trivial⟩); (case hx => (cases hF; exact rfl)))
    | ((refine ⟨?hx, ?_⟩); (case hx => decide); conv => whnf)
    | ((with_reducible refine k_seq ?_))
    | (have hF : (none : Option _) = some _ := hF; cases hF))
end Go.Vc
namespace Go.Vc
open Go.Proofs
set_option linter.unusedVariables false
set_option linter.unnecessarySimpa false
set_option linter.unusedSimpArgs false
/- f46: tusche/tuscheref06.cuts -/
def f46_c12 (out5' : List Cut) : Option ((List Cut)) :=
 some (out5')
def Sf46_c12 : Ann := ⟨[5], [90005], [(.slot 5, 90005, 44, 2)], []⟩
def Vf46_c12 (out5' : List Cut) : List SV := [.rs 90005 (List.length (out5'))]
def Bf46_c12 (out5' : List Cut) : List Blk := [.row 44 2 (List.map Cut.d (out5'))]
theorem Cf46_c12 {c : Ctx} {p nid : Nat} {a b : Code} {st : St} {K : Ex → St → Prop} {r : (List Cut)} {g : _ → Option ((List Cut))} (hn : Nat.beq (nid * 1000 + firstRegion b) 12 = true) (hz : Sf46_c12.ok p = true)
    (h : g f46_c12 = some r → vc c p nid a st (Kseq (fun st' => st'.head Sf46_c12 fun v bl => ∃ x, (fun y : (List Cut) => f46_c12  y = some r) x ∧ v = (fun y : (List Cut) => Vf46_c12  y) x ∧ bl = (fun y : (List Cut) => Bf46_c12  y) x) K))
    (h2 : ∀ (out5' : List Cut), f46_c12  out5' = some r → vc c p nid b (St.mk' Sf46_c12 (Vf46_c12  out5') (Bf46_c12  out5')) K) (hF : joinK f46_c12 g = some r) : vc c p nid (.seq a b) st K :=
  vc_cut Sf46_c12 (fun y : (List Cut) => Vf46_c12  y) (fun y : (List Cut) => Bf46_c12  y) (fun y : (List Cut) => f46_c12  y = some r) hz (h hF) fun y hy => h2 y hy
def V2f46_c12 (out5' : List Cut) (m0 : Nat) : List SV := [.rs 90005 m0]
def B2f46_c12 (out5' : List Cut) (m0 : Nat) : List Blk := [.row 44 2 (List.map Cut.d (out5'))]
theorem Zf46_c12 {K : Ex → St → Prop} {r : (List Cut)} {out5' : List Cut} {m0 : Nat} {st st' : St} (hF : f46_c12  out5' = some r) (h1 : st.norm Sf46_c12 = some st') (h2 : st'.cutOk Sf46_c12.keep Sf46_c12.bs (memB Sf46_c12.bs) = true) (h3 : vals Sf46_c12.keep st'.e = V2f46_c12  out5' m0) (h4 : blks Sf46_c12.bs st'.m = B2f46_c12  out5' m0) (em0 : m0 = List.length (out5')) :
    Kseq (fun st' => st'.head Sf46_c12 fun v bl => ∃ x, (fun y : (List Cut) => f46_c12  y = some r) x ∧ v = (fun y : (List Cut) => Vf46_c12  y) x ∧ bl = (fun y : (List Cut) => Bf46_c12  y) x) K .normal st := by
  subst em0; exact k_seq (head_in (I := (fun y : (List Cut) => f46_c12  y = some r)) (x := (out5')) hF h1 h2 h3 h4)
def f46_8b (r8 : (List Cut) → Int → Option ((List Cut))) (a0 : List Label) (a1 : Label) (N : Nat) (k0 : (List Cut) → Option ((List Cut))) (out5' : List Cut) (at7 : Int) : Option ((List Cut)) :=
 bif decide (at7 ≤ (12 : Int)) then ((f63 N a0 a1 (Cut.mk false at7)).bind fun x1 =>
 bif x1 then ((app 16 (out5') [(Cut.mk false at7)]).bind fun x2 =>
 r8 x2 (W (at7 + (1 : Int))))
 else (r8 (out5') (W (at7 + (1 : Int)))))
 else (k0 (out5'))
def f46_8 (a0 : List Label) (a1 : Label) (N : Nat) (k0 : (List Cut) → Option ((List Cut))) : Nat → (List Cut) → Int → Option ((List Cut))
  | 0, _, _ => none
  | n + 1, out5', at7 => f46_8b (f46_8 a0 a1 N k0 n) a0 a1 N k0 out5' at7
def Sf46_8 : Ann := ⟨[0, 3, 5, 7], [0, 90005], [(.slot 5, 90005, 44, 2)], []⟩
def Vf46_8 (a0 : List Label) (a1 : Label) (out5' : List Cut) (at7 : Int) : List SV := [.dat (sl_Label a0), .ptr 0 0, .rs 90005 (List.length (out5')), .dat (iN at7)]
def Bf46_8 (a0 : List Label) (a1 : Label) (out5' : List Cut) (at7 : Int) : List Blk := [.box [.dat (iN a1.X), .dat (iN a1.Y), .dat (iN a1.W), .dat (iN a1.H)], .row 44 2 (List.map Cut.d (out5'))]
def V2f46_8 (a0 : List Label) (a1 : Label) (out5' : List Cut) (at7 : Int) (m0 : Nat) : List SV := [.dat (sl_Label a0), .ptr 0 0, .rs 90005 m0, .dat (iN at7)]
def B2f46_8 (a0 : List Label) (a1 : Label) (out5' : List Cut) (at7 : Int) (m0 : Nat) : List Blk := [.box [.dat (iN a1.X), .dat (iN a1.Y), .dat (iN a1.W), .dat (iN a1.H)], .row 44 2 (List.map Cut.d (out5'))]
theorem Lf46_8 {c : Ctx} {p nid : Nat} {a : Code} {K : Ex → St → Prop} {r : (List Cut)} {a0 : List Label} {a1 : Label} {N : Nat} {k0 : (List Cut) → Option ((List Cut))} {fu : Nat} {out5' : List Cut} {at7 : Int} {m0 : Nat} {st st' : St} (hz : Sf46_8.ok p = true) (h1 : st.norm Sf46_8 = some st') (h2 : st'.cutOk Sf46_8.keep Sf46_8.bs (memB Sf46_8.bs) = true) (h3 : vals Sf46_8.keep st'.e = V2f46_8 a0 a1 out5' at7 m0) (h4 : blks Sf46_8.bs st'.m = B2f46_8 a0 a1 out5' at7 m0) (em0 : m0 = List.length (out5'))
    (h : ∀ (n : Nat) (out5' : List Cut) (at7 : Int), f46_8b (f46_8 a0 a1 N k0 n) a0 a1 N k0 out5' at7 = some r → vc c p nid a (St.mk' Sf46_8 (Vf46_8 a0 a1 out5' at7) (Bf46_8 a0 a1 out5' at7)) (Kloop Sf46_8 (fun y : Nat × (List Cut) × Int => Vf46_8 a0 a1 y.2.1 y.2.2) (fun y : Nat × (List Cut) × Int => Bf46_8 a0 a1 y.2.1 y.2.2) (fun y : Nat × (List Cut) × Int => f46_8 a0 a1 N k0 y.1 y.2.1 y.2.2 = some r) (fun y : Nat × (List Cut) × Int => y.1) (n + 1, out5', at7) K)) (hF : f46_8 a0 a1 N k0 fu out5' at7 = some r) : vc c p nid (.loop a) st K := by
  subst em0; refine vc_loop Sf46_8 (fun y : Nat × (List Cut) × Int => Vf46_8 a0 a1 y.2.1 y.2.2) (fun y : Nat × (List Cut) × Int => Bf46_8 a0 a1 y.2.1 y.2.2) (fun y : Nat × (List Cut) × Int => f46_8 a0 a1 N k0 y.1 y.2.1 y.2.2 = some r) (fun y : Nat × (List Cut) × Int => y.1) hz (head_in (x := (fu, out5', at7)) hF h1 h2 h3 h4) ?_
  rintro ⟨_ | n, out5', at7⟩ hI
  · cases hI
  · exact h n out5' at7 hI
theorem Mf46_8 {K : Ex → St → Prop} {r : (List Cut)} {a0 : List Label} {a1 : Label} {N : Nat} {k0 : (List Cut) → Option ((List Cut))} {n : Nat} {out5' : List Cut} {at7 : Int} {out5'_ : List Cut} {at7_ : Int} {m0 : Nat} {st st' : St} (hF : f46_8 a0 a1 N k0 n out5' at7 = some r) (h1 : st.norm Sf46_8 = some st') (h2 : st'.cutOk Sf46_8.keep Sf46_8.bs (memB Sf46_8.bs) = true) (h3 : vals Sf46_8.keep st'.e = V2f46_8 a0 a1 out5' at7 m0) (h4 : blks Sf46_8.bs st'.m = B2f46_8 a0 a1 out5' at7 m0) (em0 : m0 = List.length (out5')) :
    Kloop Sf46_8 (fun y : Nat × (List Cut) × Int => Vf46_8 a0 a1 y.2.1 y.2.2) (fun y : Nat × (List Cut) × Int => Bf46_8 a0 a1 y.2.1 y.2.2) (fun y : Nat × (List Cut) × Int => f46_8 a0 a1 N k0 y.1 y.2.1 y.2.2 = some r) (fun y : Nat × (List Cut) × Int => y.1) (n + 1, out5'_, at7_) K .normal st := by
  subst em0; exact head_back (y := (n, out5', at7)) hF (Nat.lt_succ_self n) h1 h2 h3 h4
def f46_c7 (a0 : List Label) (a1 : Label) (N : Nat) (out5 : List Cut) : Option ((List Cut)) :=
 joinK f46_c12 fun k0 =>
 f46_8 a0 a1 N k0 N out5 (0 : Int)
def Sf46_c7 : Ann := ⟨[0, 3, 5], [0, 90005], [(.slot 5, 90005, 44, 2)], []⟩
def Vf46_c7 (a0 : List Label) (a1 : Label) (out5 : List Cut) : List SV := [.dat (sl_Label a0), .ptr 0 0, .rs 90005 (List.length out5)]
def Bf46_c7 (a0 : List Label) (a1 : Label) (out5 : List Cut) : List Blk := [.box [.dat (iN a1.X), .dat (iN a1.Y), .dat (iN a1.W), .dat (iN a1.H)], .row 44 2 (List.map Cut.d out5)]
theorem Cf46_c7 {c : Ctx} {p nid : Nat} {a b : Code} {st : St} {K : Ex → St → Prop} {r : (List Cut)} {a0 : List Label} {a1 : Label} {N : Nat} {g : _ → Option ((List Cut))} (hn : Nat.beq (nid * 1000 + firstRegion b) 7 = true) (hz : Sf46_c7.ok p = true)
    (h : g (f46_c7 a0 a1 N) = some r → vc c p nid a st (Kseq (fun st' => st'.head Sf46_c7 fun v bl => ∃ x, (fun y : (List Cut) => f46_c7 a0 a1 N y = some r) x ∧ v = (fun y : (List Cut) => Vf46_c7 a0 a1 y) x ∧ bl = (fun y : (List Cut) => Bf46_c7 a0 a1 y) x) K))
    (h2 : ∀ (out5 : List Cut), f46_c7 a0 a1 N out5 = some r → vc c p nid b (St.mk' Sf46_c7 (Vf46_c7 a0 a1 out5) (Bf46_c7 a0 a1 out5)) K) (hF : joinK (f46_c7 a0 a1 N) g = some r) : vc c p nid (.seq a b) st K :=
  vc_cut Sf46_c7 (fun y : (List Cut) => Vf46_c7 a0 a1 y) (fun y : (List Cut) => Bf46_c7 a0 a1 y) (fun y : (List Cut) => f46_c7 a0 a1 N y = some r) hz (h hF) fun y hy => h2 y hy
def V2f46_c7 (a0 : List Label) (a1 : Label) (out5 : List Cut) (m0 : Nat) : List SV := [.dat (sl_Label a0), .ptr 0 0, .rs 90005 m0]
def B2f46_c7 (a0 : List Label) (a1 : Label) (out5 : List Cut) (m0 : Nat) : List Blk := [.box [.dat (iN a1.X), .dat (iN a1.Y), .dat (iN a1.W), .dat (iN a1.H)], .row 44 2 (List.map Cut.d out5)]
theorem Zf46_c7 {K : Ex → St → Prop} {r : (List Cut)} {a0 : List Label} {a1 : Label} {N : Nat} {out5 : List Cut} {m0 : Nat} {st st' : St} (hF : f46_c7 a0 a1 N out5 = some r) (h1 : st.norm Sf46_c7 = some st') (h2 : st'.cutOk Sf46_c7.keep Sf46_c7.bs (memB Sf46_c7.bs) = true) (h3 : vals Sf46_c7.keep st'.e = V2f46_c7 a0 a1 out5 m0) (h4 : blks Sf46_c7.bs st'.m = B2f46_c7 a0 a1 out5 m0) (em0 : m0 = List.length out5) :
    Kseq (fun st' => st'.head Sf46_c7 fun v bl => ∃ x, (fun y : (List Cut) => f46_c7 a0 a1 N y = some r) x ∧ v = (fun y : (List Cut) => Vf46_c7 a0 a1 y) x ∧ bl = (fun y : (List Cut) => Bf46_c7 a0 a1 y) x) K .normal st := by
  subst em0; exact k_seq (head_in (I := (fun y : (List Cut) => f46_c7 a0 a1 N y = some r)) (x := (out5)) hF h1 h2 h3 h4)
def f46_3b (r3 : (List Cut) → Int → Option ((List Cut))) (a0 : List Label) (a1 : Label) (N : Nat) (k1 : (List Cut) → Option ((List Cut))) (out5 : List Cut) (at6 : Int) : Option ((List Cut)) :=
 bif decide (at6 ≤ (12 : Int)) then ((f63 N a0 a1 (Cut.mk true at6)).bind fun x3 =>
 bif x3 then ((app 16 out5 [(Cut.mk true at6)]).bind fun x4 =>
 r3 x4 (W (at6 + (1 : Int))))
 else (r3 out5 (W (at6 + (1 : Int)))))
 else (k1 out5)
def f46_3 (a0 : List Label) (a1 : Label) (N : Nat) (k1 : (List Cut) → Option ((List Cut))) : Nat → (List Cut) → Int → Option ((List Cut))
  | 0, _, _ => none
  | n + 1, out5, at6 => f46_3b (f46_3 a0 a1 N k1 n) a0 a1 N k1 out5 at6
def Sf46_3 : Ann := ⟨[0, 3, 5, 6], [0, 90005], [(.slot 5, 90005, 44, 2)], []⟩
def Vf46_3 (a0 : List Label) (a1 : Label) (out5 : List Cut) (at6 : Int) : List SV := [.dat (sl_Label a0), .ptr 0 0, .rs 90005 (List.length out5), .dat (iN at6)]
def Bf46_3 (a0 : List Label) (a1 : Label) (out5 : List Cut) (at6 : Int) : List Blk := [.box [.dat (iN a1.X), .dat (iN a1.Y), .dat (iN a1.W), .dat (iN a1.H)], .row 44 2 (List.map Cut.d out5)]
def V2f46_3 (a0 : List Label) (a1 : Label) (out5 : List Cut) (at6 : Int) (m0 : Nat) : List SV := [.dat (sl_Label a0), .ptr 0 0, .rs 90005 m0, .dat (iN at6)]
def B2f46_3 (a0 : List Label) (a1 : Label) (out5 : List Cut) (at6 : Int) (m0 : Nat) : List Blk := [.box [.dat (iN a1.X), .dat (iN a1.Y), .dat (iN a1.W), .dat (iN a1.H)], .row 44 2 (List.map Cut.d out5)]
theorem Lf46_3 {c : Ctx} {p nid : Nat} {a : Code} {K : Ex → St → Prop} {r : (List Cut)} {a0 : List Label} {a1 : Label} {N : Nat} {k1 : (List Cut) → Option ((List Cut))} {fu : Nat} {out5 : List Cut} {at6 : Int} {m0 : Nat} {st st' : St} (hz : Sf46_3.ok p = true) (h1 : st.norm Sf46_3 = some st') (h2 : st'.cutOk Sf46_3.keep Sf46_3.bs (memB Sf46_3.bs) = true) (h3 : vals Sf46_3.keep st'.e = V2f46_3 a0 a1 out5 at6 m0) (h4 : blks Sf46_3.bs st'.m = B2f46_3 a0 a1 out5 at6 m0) (em0 : m0 = List.length out5)
    (h : ∀ (n : Nat) (out5 : List Cut) (at6 : Int), f46_3b (f46_3 a0 a1 N k1 n) a0 a1 N k1 out5 at6 = some r → vc c p nid a (St.mk' Sf46_3 (Vf46_3 a0 a1 out5 at6) (Bf46_3 a0 a1 out5 at6)) (Kloop Sf46_3 (fun y : Nat × (List Cut) × Int => Vf46_3 a0 a1 y.2.1 y.2.2) (fun y : Nat × (List Cut) × Int => Bf46_3 a0 a1 y.2.1 y.2.2) (fun y : Nat × (List Cut) × Int => f46_3 a0 a1 N k1 y.1 y.2.1 y.2.2 = some r) (fun y : Nat × (List Cut) × Int => y.1) (n + 1, out5, at6) K)) (hF : f46_3 a0 a1 N k1 fu out5 at6 = some r) : vc c p nid (.loop a) st K := by
  subst em0; refine vc_loop Sf46_3 (fun y : Nat × (List Cut) × Int => Vf46_3 a0 a1 y.2.1 y.2.2) (fun y : Nat × (List Cut) × Int => Bf46_3 a0 a1 y.2.1 y.2.2) (fun y : Nat × (List Cut) × Int => f46_3 a0 a1 N k1 y.1 y.2.1 y.2.2 = some r) (fun y : Nat × (List Cut) × Int => y.1) hz (head_in (x := (fu, out5, at6)) hF h1 h2 h3 h4) ?_
  rintro ⟨_ | n, out5, at6⟩ hI
  · cases hI
  · exact h n out5 at6 hI
theorem Mf46_3 {K : Ex → St → Prop} {r : (List Cut)} {a0 : List Label} {a1 : Label} {N : Nat} {k1 : (List Cut) → Option ((List Cut))} {n : Nat} {out5 : List Cut} {at6 : Int} {out5_ : List Cut} {at6_ : Int} {m0 : Nat} {st st' : St} (hF : f46_3 a0 a1 N k1 n out5 at6 = some r) (h1 : st.norm Sf46_3 = some st') (h2 : st'.cutOk Sf46_3.keep Sf46_3.bs (memB Sf46_3.bs) = true) (h3 : vals Sf46_3.keep st'.e = V2f46_3 a0 a1 out5 at6 m0) (h4 : blks Sf46_3.bs st'.m = B2f46_3 a0 a1 out5 at6 m0) (em0 : m0 = List.length out5) :
    Kloop Sf46_3 (fun y : Nat × (List Cut) × Int => Vf46_3 a0 a1 y.2.1 y.2.2) (fun y : Nat × (List Cut) × Int => Bf46_3 a0 a1 y.2.1 y.2.2) (fun y : Nat × (List Cut) × Int => f46_3 a0 a1 N k1 y.1 y.2.1 y.2.2 = some r) (fun y : Nat × (List Cut) × Int => y.1) (n + 1, out5_, at6_) K .normal st := by
  subst em0; exact head_back (y := (n, out5, at6)) hF (Nat.lt_succ_self n) h1 h2 h3 h4
def f46 (N : Nat) (a0 : List Label) (a1 : Label) : Option ((List Cut)) :=
 joinK (f46_c7 a0 a1 N) fun k1 =>
 f46_3 a0 a1 N k1 N [] (0 : Int)
def G46 (ds : List D) (d : D) : Prop := ∃ (N : Nat) (a0 : List Label) (a1 : Label) (r : (List Cut)), ds = [sl_Label a0, Label.d a1] ∧ f46 N a0 a1 = some r ∧ d = sl_Cut r
theorem G46.step {N : Nat} {a0 : List Label} {a1 : Label} {ρ : Type} {A : (List Cut) → Option ρ} {q : ρ} {ds : List D} {K : D → Prop} (hd : ds = [sl_Label a0, Label.d a1]) (h : ∀ r, A r = some q → K (sl_Cut r)) (hF : (f46 N a0 a1).bind A = some q) : ∃ d, G46 ds d ∧ K d := by
  obtain ⟨r, hr, hA⟩ := bind_some hF
  exact ⟨_, ⟨N, a0, a1, r, hd, hr, rfl⟩, h r hA⟩
set_option maxRecDepth 20000 in
set_option maxHeartbeats 4000000 in
theorem P46 : PureOK Try.prog 46 G46 := by
  refine pure_of_vc (c := mkCtx tyTree [(63, true, purePg [[4], [0, 0, 0, 0], [0, 0]] G63)]) rfl tyOK (ctx_cons (callable Try.func63 rfl rfl) P63 (ctx_nil)) [[2]] 2 Try.func46 rfl rfl (by decide) (by kernel_rfl) ?_
  rintro ds d ⟨N, a0, a1, r, rfl, hF, rfl⟩ hok
  clear hok
  refine ⟨rfl, ?_⟩
  show vc _ _ _ _ ⟨[(0, .dat (sl_Label a0)), (1, .dat (Label.d a1))], []⟩ _
  unfold f46 at hF
  repeat' (first
    | ((with_reducible refine q0 _ _ ?_); clear Q q0 q1 q2)
    | ((with_reducible refine q1 _ _ _ _ ?_); clear Q q0 q1 q2)
    | ((with_reducible refine q2 _ _ _ ?_); clear Q q0 q1 q2)
    | ((with_reducible refine seq_op ?hx (fun Q q0 q1 q2 => ?_)); (case hx => exact rfl); conv => whnf)
    | ((with_reducible refine draw_op ?hx (fun Q q0 q1 q2 => ?_)); (case hx => exact rfl); conv => whnf)
    | ((with_reducible refine seq_op0 ?hx (fun Q q0 q1 q2 => ?_)); (case hx => exact rfl); conv => whnf)
    | ((with_reducible refine draw_op0 ?hx (fun Q q0 q1 q2 => ?_)); (case hx => exact rfl); conv => whnf)
    | ((with_reducible refine seq_off ?hx ?_); (case hx => exact rfl))
    | ((with_reducible refine seq_off0 ?hx ?_); (case hx => exact rfl))
    | ((with_reducible refine draw_off ?hx ?_); (case hx => exact rfl))
    | ((with_reducible refine draw_off0 ?hx ?_); (case hx => exact rfl))
    | ((with_reducible refine seq_id ?_); (first | ((refine seq_opK rfl ?hy (fun Q q0 q1 q2 => ?_)); (case hy => first | assumption | exact notT (by assumption) | exact rfl); conv => whnf) | ((refine seq_offK rfl ?hy ?_); (case hy => first | assumption | exact notF (by assumption) | exact rfl)) | ((refine seq_opK0 rfl ?hy (fun Q q0 q1 q2 => ?_)); (case hy => first | assumption | exact notT (by assumption) | exact rfl); conv => whnf) | ((refine seq_offK0 rfl ?hy ?_); (case hy => first | assumption | exact notF (by assumption) | exact rfl)) | (revert hF; (with_reducible refine seq_opF ?hx ?_ ?_); (case hx => exact rfl); (intro hc hF Q q0 q1 q2; conv => whnf); rotate_left; (intro hc hF); rotate_right) | (revert hF; (with_reducible refine seq_opN ?hx ?_ ?_); (case hx => exact rfl); (intro hc hF); rotate_left; (intro hc hF Q q0 q1 q2; conv => whnf); rotate_right) | (revert hF; (with_reducible refine seq_opF0 ?hx ?_ ?_); (case hx => exact rfl); (intro hc hF Q q0 q1 q2; conv => whnf); rotate_left; (intro hc hF); rotate_right) | (revert hF; (with_reducible refine seq_opN0 ?hx ?_ ?_); (case hx => exact rfl); (intro hc hF); rotate_left; (intro hc hF Q q0 q1 q2; conv => whnf); rotate_right)))
    | ((with_reducible refine draw_id ?_); (first | ((refine draw_opK rfl ?hy (fun Q q0 q1 q2 => ?_)); (case hy => first | assumption | exact notT (by assumption) | exact rfl); conv => whnf) | ((refine draw_offK rfl ?hy ?_); (case hy => first | assumption | exact notF (by assumption) | exact rfl)) | ((refine draw_opK0 rfl ?hy (fun Q q0 q1 q2 => ?_)); (case hy => first | assumption | exact notT (by assumption) | exact rfl); conv => whnf) | ((refine draw_offK0 rfl ?hy ?_); (case hy => first | assumption | exact notF (by assumption) | exact rfl)) | (revert hF; (with_reducible refine draw_opF ?hx ?_ ?_); (case hx => exact rfl); (intro hc hF Q q0 q1 q2; conv => whnf); rotate_left; (intro hc hF); rotate_right) | (revert hF; (with_reducible refine draw_opN ?hx ?_ ?_); (case hx => exact rfl); (intro hc hF); rotate_left; (intro hc hF Q q0 q1 q2; conv => whnf); rotate_right) | (revert hF; (with_reducible refine draw_opF0 ?hx ?_ ?_); (case hx => exact rfl); (intro hc hF Q q0 q1 q2; conv => whnf); rotate_left; (intro hc hF); rotate_right) | (revert hF; (with_reducible refine draw_opN0 ?hx ?_ ?_); (case hx => exact rfl); (intro hc hF); rotate_left; (intro hc hF Q q0 q1 q2; conv => whnf); rotate_right)))
    | ((with_reducible refine cond_id ?_); (first | ((refine condKT rfl ?hy ?_); (case hy => first | assumption | exact notT (by assumption) | exact rfl)) | ((refine condKF rfl ?hy ?_); (case hy => first | assumption | exact notF (by assumption) | exact rfl)) | (revert hF; (with_reducible refine condF ?hx ?_ ?_); (case hx => exact rfl); all_goals (intro hc hF))))
    | ((with_reducible refine seq_nil ?_); (first | ((with_reducible refine hR _ ?_); clear R hR) | ((with_reducible refine hL _ ?_); clear L hL)))
    | ((with_reducible refine draw_nil ?_); (with_reducible refine hR _ _ ?hx ?_); (case hx => kernel_rfl); (first | clear R hR | clear hR))
    | ((with_reducible refine int_step ?_); conv => whnf)
    | ((with_reducible refine len_step ?_); conv => whnf)
    | ((with_reducible refine idx2 (by assumption) ?_); conv => whnf)
    | ((with_reducible refine idx3 (by assumption) ?_); conv => whnf)
    | with_reducible refine vc_block ?_
    | with_reducible refine vc_skip ?_
    | with_reducible refine vc_ret ?_
    | with_reducible refine vc_exit ?_
    | ((with_reducible refine vc_seqN [12, 7] ?hx ?_); (case hx => exact rfl))
    | (with_reducible refine vc_region (fun R hR => ?_))
    | ((with_reducible refine vc_draw ?hx (fun R hR => ?_)); (case hx => exact rfl))
    | fail
    | (revert hF; (refine Cf46_c12 rfl rfl ?_ ?_); (intro hF); rotate_left; (intro out5' hF; unfold f46_c12 at hF); rotate_right)
    | exact Zf46_c12 hF rfl rfl rfl rfl (by first | exact rfl | assumption | omega)
    | (revert hF; (refine Lf46_8 rfl rfl rfl rfl rfl (by first | exact rfl | assumption | omega) ?_); intro n out5' at7 hF; unfold f46_8b at hF)
    | exact Mf46_8 hF rfl rfl rfl rfl (by first | exact rfl | assumption | omega)
    | (revert hF; (refine Cf46_c7 rfl rfl ?_ ?_); (intro hF); rotate_left; (intro out5 hF; unfold f46_c7 at hF); rotate_right)
    | exact Zf46_c7 hF rfl rfl rfl rfl (by first | exact rfl | assumption | omega)
    | (revert hF; (refine Lf46_3 rfl rfl rfl rfl rfl (by first | exact rfl | assumption | omega) ?_); intro n out5 at6 hF; unfold f46_3b at hF)
    | exact Mf46_3 hF rfl rfl rfl rfl (by first | exact rfl | assumption | omega)
    | (revert hF; (with_reducible refine G63.step ?hx ?_); (case hx => exact rfl); intro v hF; conv => whnf)
    | with_reducible refine k_seq_ret ?_
    | with_reducible refine k_seq_exit ?_
    | with_reducible refine k_blk ?_
    | with_reducible refine k_blk_ret ?_
    | with_reducible refine k_blk_here ?_
    | ((with_reducible refine k_blk_out ?hx ?_); (case hx => exact rfl))
    | with_reducible refine k_loop_ret ?_
    | with_reducible refine k_loop_exit ?_
    | (revert hF; (with_reducible refine idx1 ?hn ?_); (case hn => first | exact rfl | exact (List.length_map _) | assumption | omega | simp); intro x hx hF; conv => whnf)
    | ((with_reducible have hG := sub_fact hF); clear hF; (first | (refine sub_step hG (fun q hF => ?_)) | (refine subrow_step hG ?hn (fun q hF => ?_); (case hn => first | exact rfl | assumption | omega))); clear hG; conv => whnf)
    | ((with_reducible have hG := app_fact hF); clear hF; (first | ((refine app_row hG ?hn ?hs (fun q hF => ?_)); (case hn => first | exact rfl | assumption | omega); (case hs => exact rfl)) | ((refine app_nil (d := Cut.d) hG ?hs (fun q hF => ?_)); (case hs => exact rfl)) | ((refine app_gen (d := Cut.d) hG ?ho ?hn ?hs (fun q hF => ?_)); (case ho => exact rfl); (case hn => exact rfl); (case hs => exact rfl))); clear hG; conv => whnf)
    | ((refine row_all ?hn ?_); (case hn => first | exact rfl | (simp; done) | (simp; omega)); conv => whnf)
    | ((with_reducible refine le_step ?hn ?_); (case hn => first | exact rfl | assumption | omega); conv => whnf)
    | ((with_reducible have hG := setx_fact hF); clear hF; (refine setx_step hG ?hs (fun q hl hF => ?_)); (case hs => exact rfl); clear hG; conv => whnf)
    | (revert hF; (with_reducible refine dem_step ?_ ?_); (intro hl hF; conv => whnf); rotate_left; (intro hF; conv => whnf); rotate_right)
    | ((refine ⟨?hx, ?_⟩); (case hx => exact ⟨rfl, Nat.le_of_ble_eq_true rfl, rfl⟩); conv => whnf)
    | ((with_reducible refine ex_step ?_); conv => whnf)
    | ((with_reducible have hG := chk_fact hF); clear hF; (refine ⟨?hx, ?_⟩); (case hx => (first | exact of_decide_eq_true hG.1 | exact hG.1)); have hF := hG.2; clear hG; conv => whnf)
    | ((with_reducible refine both_T ?hx ?_); (case hx => first | exact rfl | assumption | exact notT (by assumption)); conv => whnf)
    | ((with_reducible refine both_F ?hx ?_); (case hx => first | exact rfl | assumption | exact notF (by assumption)); conv => whnf)
    | (revert hF; (with_reducible refine ite_step ?_ ?_) <;> (intro hc hF; conv => whnf))
    | ((with_reducible refine vc_condT ?hx ?_); (case hx => exact rfl))
    | ((with_reducible refine vc_condF ?hx ?_); (case hx => exact rfl))
    | (show retD _ _ _ _ _ _; conv => whnf)
    | ((refine inl_step ?ha ?hb ?hc rfl ?_); (case ha => exact rfl); (case hb => omega); (case hc => exact Nat.le_of_ble_eq_true rfl))
    | (show Kinl _ _ _ _ _ _ _; conv => whnf)
    | ((with_reducible refine kinl_step ?ha ?hb ?_); (case ha => exact rfl); (case hb => exact rfl); conv => whnf)
    | ((refine ⟨?hx, trivial⟩); (case hx => (cases hF; exact rfl)))
    | ((refine ⟨?hx, ?_⟩); (case hx => decide); conv => whnf)
    | ((with_reducible refine k_seq ?_))
    | (have hF : (none : Option _) = some _ := hF; cases hF))
end Go.Vc
namespace Go.Vc
open Go.Proofs
set_option linter.unusedVariables false
set_option linter.unnecessarySimpa false
set_option linter.unusedSimpArgs false
/- f59: tusche/tuscheref06.apart -/
def f59b (self : (List Label) → Label → Option (Bool)) (N : Nat) (a0 : List Label) (a1 : Label) : Option (Bool) :=
 bif decide ((List.length a0 : Int) < (2 : Int)) then (some (true))
 else ((f46 N a0 a1).bind fun x1 =>
 bif decide ((List.length x1 : Int) = (0 : Int)) then (some (false))
 else ((ix x1 (0 : Int)).bind fun x2 =>
 (f64 N a1 x2).bind fun x3 =>
 (f62 N a0 x3.1).bind fun x4 =>
 (self x4 x3.1).bind fun x5 =>
 bif x5 then ((f62 N a0 x3.2.1).bind fun x6 =>
 (self x6 x3.2.1).bind fun x7 =>
 some (x7))
 else (some (false))))
def f59 : Nat → (List Label) → Label → Option (Bool)
  | 0, _, _ => none
  | N + 1, a0, a1 => f59b (f59 N) N a0 a1
def H59 (N : Nat) (ds : List D) (d : D) : Prop := ∃ (a0 : List Label) (a1 : Label) (r : Bool), ds = [sl_Label a0, Label.d a1] ∧ f59 N a0 a1 = some r ∧ d = bN r
def G59 (ds : List D) (d : D) : Prop := ∃ N : Nat, H59 N ds d
theorem H59.step {N : Nat} {a0 : List Label} {a1 : Label} {ρ : Type} {A : Bool → Option ρ} {q : ρ} {ds : List D} {K : D → Prop} (hd : ds = [sl_Label a0, Label.d a1]) (h : ∀ r, A r = some q → K (bN r)) (hF : (f59 N a0 a1).bind A = some q) : ∃ d, H59 N ds d ∧ K d := by
  obtain ⟨r, hr, hA⟩ := bind_some hF
  exact ⟨_, ⟨a0, a1, r, hd, hr, rfl⟩, h r hA⟩
theorem G59.step {N : Nat} {a0 : List Label} {a1 : Label} {ρ : Type} {A : Bool → Option ρ} {q : ρ} {ds : List D} {K : D → Prop} (hd : ds = [sl_Label a0, Label.d a1]) (h : ∀ r, A r = some q → K (bN r)) (hF : (f59 N a0 a1).bind A = some q) : ∃ d, G59 ds d ∧ K d := by
  obtain ⟨r, hr, hA⟩ := bind_some hF
  exact ⟨_, ⟨N, a0, a1, r, hd, hr, rfl⟩, h r hA⟩
set_option maxRecDepth 20000 in
set_option maxHeartbeats 4000000 in
theorem Q59 (N : Nat) : PureOK Try.prog 59 (H59 N) := by
  induction N with
  | zero =>
    rintro w Z vs ds d h1 h2 h3 ⟨a0, a1, r, h4, h5, h6⟩
    cases h5
  | succ N ih =>
    refine pure_of_vc (c := mkCtx tyTree [(59, true, purePg [[4], [0, 0, 0, 0]] (H59 N)), (64, true, purePg [[0, 0, 0, 0], [0, 0]] G64), (62, true, purePg [[4], [0, 0, 0, 0]] G62), (46, true, purePg [[4], [0, 0, 0, 0]] G46)]) rfl tyOK (ctx_cons (callable Try.func59 rfl rfl) ih (ctx_cons (callable Try.func64 rfl rfl) P64 (ctx_cons (callable Try.func62 rfl rfl) P62 (ctx_cons (callable Try.func46 rfl rfl) P46 (ctx_nil))))) [[0]] 2 Try.func59 rfl rfl (by decide) (by kernel_rfl) ?_
    rintro ds d ⟨a0, a1, r, rfl, hF, rfl⟩ hok
    clear hok
    refine ⟨rfl, ?_⟩
    show vc _ _ _ _ ⟨[(0, .dat (sl_Label a0)), (1, .dat (Label.d a1))], []⟩ _
    have hF : f59b (f59 N) N a0 a1 = some r := hF
    unfold f59b at hF
    repeat' (first
      | ((with_reducible refine q0 _ _ ?_); clear Q q0 q1 q2)
      | ((with_reducible refine q1 _ _ _ _ ?_); clear Q q0 q1 q2)
      | ((with_reducible refine q2 _ _ _ ?_); clear Q q0 q1 q2)
      | ((with_reducible refine seq_op ?hx (fun Q q0 q1 q2 => ?_)); (case hx => exact rfl); conv => whnf)
      | ((with_reducible refine draw_op ?hx (fun Q q0 q1 q2 => ?_)); (case hx => exact rfl); conv => whnf)
      | ((with_reducible refine seq_op0 ?hx (fun Q q0 q1 q2 => ?_)); (case hx => exact rfl); conv => whnf)
      | ((with_reducible refine draw_op0 ?hx (fun Q q0 q1 q2 => ?_)); (case hx => exact rfl); conv => whnf)
      | ((with_reducible refine seq_off ?hx ?_); (case hx => exact rfl))
      | ((with_reducible refine seq_off0 ?hx ?_); (case hx => exact rfl))
      | ((with_reducible refine draw_off ?hx ?_); (case hx => exact rfl))
      | ((with_reducible refine draw_off0 ?hx ?_); (case hx => exact rfl))
      | ((with_reducible refine seq_id ?_); (first | ((refine seq_opK rfl ?hy (fun Q q0 q1 q2 => ?_)); (case hy => first | assumption | exact notT (by assumption) | exact rfl); conv => whnf) | ((refine seq_offK rfl ?hy ?_); (case hy => first | assumption | exact notF (by assumption) | exact rfl)) | ((refine seq_opK0 rfl ?hy (fun Q q0 q1 q2 => ?_)); (case hy => first | assumption | exact notT (by assumption) | exact rfl); conv => whnf) | ((refine seq_offK0 rfl ?hy ?_); (case hy => first | assumption | exact notF (by assumption) | exact rfl)) | (revert hF; (with_reducible refine seq_opF ?hx ?_ ?_); (case hx => exact rfl); (intro hc hF Q q0 q1 q2; conv => whnf); rotate_left; (intro hc hF); rotate_right) | (revert hF; (with_reducible refine seq_opN ?hx ?_ ?_); (case hx => exact rfl); (intro hc hF); rotate_left; (intro hc hF Q q0 q1 q2; conv => whnf); rotate_right) | (revert hF; (with_reducible refine seq_opF0 ?hx ?_ ?_); (case hx => exact rfl); (intro hc hF Q q0 q1 q2; conv => whnf); rotate_left; (intro hc hF); rotate_right) | (revert hF; (with_reducible refine seq_opN0 ?hx ?_ ?_); (case hx => exact rfl); (intro hc hF); rotate_left; (intro hc hF Q q0 q1 q2; conv => whnf); rotate_right)))
      | ((with_reducible refine draw_id ?_); (first | ((refine draw_opK rfl ?hy (fun Q q0 q1 q2 => ?_)); (case hy => first | assumption | exact notT (by assumption) | exact rfl); conv => whnf) | ((refine draw_offK rfl ?hy ?_); (case hy => first | assumption | exact notF (by assumption) | exact rfl)) | ((refine draw_opK0 rfl ?hy (fun Q q0 q1 q2 => ?_)); (case hy => first | assumption | exact notT (by assumption) | exact rfl); conv => whnf) | ((refine draw_offK0 rfl ?hy ?_); (case hy => first | assumption | exact notF (by assumption) | exact rfl)) | (revert hF; (with_reducible refine draw_opF ?hx ?_ ?_); (case hx => exact rfl); (intro hc hF Q q0 q1 q2; conv => whnf); rotate_left; (intro hc hF); rotate_right) | (revert hF; (with_reducible refine draw_opN ?hx ?_ ?_); (case hx => exact rfl); (intro hc hF); rotate_left; (intro hc hF Q q0 q1 q2; conv => whnf); rotate_right) | (revert hF; (with_reducible refine draw_opF0 ?hx ?_ ?_); (case hx => exact rfl); (intro hc hF Q q0 q1 q2; conv => whnf); rotate_left; (intro hc hF); rotate_right) | (revert hF; (with_reducible refine draw_opN0 ?hx ?_ ?_); (case hx => exact rfl); (intro hc hF); rotate_left; (intro hc hF Q q0 q1 q2; conv => whnf); rotate_right)))
      | ((with_reducible refine cond_id ?_); (first | ((refine condKT rfl ?hy ?_); (case hy => first | assumption | exact notT (by assumption) | exact rfl)) | ((refine condKF rfl ?hy ?_); (case hy => first | assumption | exact notF (by assumption) | exact rfl)) | (revert hF; (with_reducible refine condF ?hx ?_ ?_); (case hx => exact rfl); all_goals (intro hc hF))))
      | ((with_reducible refine seq_nil ?_); (first | ((with_reducible refine hR _ ?_); clear R hR) | ((with_reducible refine hL _ ?_); clear L hL)))
      | ((with_reducible refine draw_nil ?_); (with_reducible refine hR _ _ ?hx ?_); (case hx => kernel_rfl); (first | clear R hR | clear hR))
      | ((with_reducible refine int_step ?_); conv => whnf)
      | ((with_reducible refine len_step ?_); conv => whnf)
      | ((with_reducible refine idx2 (by assumption) ?_); conv => whnf)
      | ((with_reducible refine idx3 (by assumption) ?_); conv => whnf)
      | with_reducible refine vc_block ?_
      | with_reducible refine vc_skip ?_
      | with_reducible refine vc_ret ?_
      | with_reducible refine vc_exit ?_
      | ((with_reducible refine vc_seqN [] ?hx ?_); (case hx => exact rfl))
      | (with_reducible refine vc_region (fun R hR => ?_))
      | ((with_reducible refine vc_draw ?hx (fun R hR => ?_)); (case hx => exact rfl))
      | fail
      | (revert hF; (with_reducible refine G46.step ?hx ?_); (case hx => exact rfl); intro v hF; conv => whnf)
      | (revert hF; (with_reducible refine G62.step ?hx ?_); (case hx => exact rfl); intro v hF; conv => whnf)
      | (revert hF; (with_reducible refine G64.step ?hx ?_); (case hx => exact rfl); intro v hF; conv => whnf)
      | (revert hF; (with_reducible refine H59.step ?hx ?_); (case hx => exact rfl); intro v hF; conv => whnf)
      | with_reducible refine k_seq_ret ?_
      | with_reducible refine k_seq_exit ?_
      | with_reducible refine k_blk ?_
      | with_reducible refine k_blk_ret ?_
      | with_reducible refine k_blk_here ?_
      | ((with_reducible refine k_blk_out ?hx ?_); (case hx => exact rfl))
      | with_reducible refine k_loop_ret ?_
      | with_reducible refine k_loop_exit ?_
      | (revert hF; (with_reducible refine idx1 ?hn ?_); (case hn => first | exact rfl | exact (List.length_map _) | assumption | omega | simp); intro x hx hF; conv => whnf)
      | ((with_reducible have hG := sub_fact hF); clear hF; (first | (refine sub_step hG (fun q hF => ?_)) | (refine subrow_step hG ?hn (fun q hF => ?_); (case hn => first | exact rfl | assumption | omega))); clear hG; conv => whnf)
      | ((with_reducible have hG := app_fact hF); clear hF; (first | ((refine app_row hG ?hn ?hs (fun q hF => ?_)); (case hn => first | exact rfl | assumption | omega); (case hs => exact rfl)) ); clear hG; conv => whnf)
      | ((refine row_all ?hn ?_); (case hn => first | exact rfl | (simp; done) | (simp; omega)); conv => whnf)
      | ((with_reducible refine le_step ?hn ?_); (case hn => first | exact rfl | assumption | omega); conv => whnf)
      | ((with_reducible have hG := setx_fact hF); clear hF; (refine setx_step hG ?hs (fun q hl hF => ?_)); (case hs => exact rfl); clear hG; conv => whnf)
      | (revert hF; (with_reducible refine dem_step ?_ ?_); (intro hl hF; conv => whnf); rotate_left; (intro hF; conv => whnf); rotate_right)
      | ((refine ⟨?hx, ?_⟩); (case hx => exact ⟨rfl, Nat.le_of_ble_eq_true rfl, rfl⟩); conv => whnf)
      | ((with_reducible refine ex_step ?_); conv => whnf)
      | ((with_reducible have hG := chk_fact hF); clear hF; (refine ⟨?hx, ?_⟩); (case hx => (first | exact of_decide_eq_true hG.1 | exact hG.1)); have hF := hG.2; clear hG; conv => whnf)
      | ((with_reducible refine both_T ?hx ?_); (case hx => first | exact rfl | assumption | exact notT (by assumption)); conv => whnf)
      | ((with_reducible refine both_F ?hx ?_); (case hx => first | exact rfl | assumption | exact notF (by assumption)); conv => whnf)
      | (revert hF; (with_reducible refine ite_step ?_ ?_) <;> (intro hc hF; conv => whnf))
      | ((with_reducible refine vc_condT ?hx ?_); (case hx => exact rfl))
      | ((with_reducible refine vc_condF ?hx ?_); (case hx => exact rfl))
      | (show retD _ _ _ _ _ _; conv => whnf)
      | ((refine inl_step ?ha ?hb ?hc rfl ?_); (case ha => exact rfl); (case hb => omega); (case hc => exact Nat.le_of_ble_eq_true rfl))
      | (show Kinl _ _ _ _ _ _ _; conv => whnf)
      | ((with_reducible refine kinl_step ?ha ?hb ?_); (case ha => exact rfl); (case hb => exact rfl); conv => whnf)
      | ((refine ⟨?hx, trivial⟩); (case hx => (cases hF; exact rfl)))
      | ((refine ⟨?hx, ?_⟩); (case hx => decide); conv => whnf)
      | ((with_reducible refine k_seq ?_))
      | (have hF : (none : Option _) = some _ := hF; cases hF))
theorem P59 : PureOK Try.prog 59 G59 := PureOK.ex Q59
end Go.Vc
namespace Go.Vc
open Go.Proofs
set_option linter.unusedVariables false
set_option linter.unnecessarySimpa false
set_option linter.unusedSimpArgs false
/- f23: tusche/tuscheref06.Possible -/
def f23 (N : Nat) (a0 : Layout) : Option (Int) :=
 (f21 N a0).bind fun x1 =>
 bif decide (x1 = (0 : Int)) then ((f47 N a0).bind fun x2 =>
 (f59 N a0.Labels x2).bind fun x3 =>
 bif !x3 then (some ((14 : Int)))
 else (some (x1)))
 else (some (x1))
def G23 (ds : List D) (d : D) : Prop := ∃ (N : Nat) (a0 : Layout) (r : Int), ds = [Layout.d a0] ∧ f23 N a0 = some r ∧ d = iN r
theorem G23.step {N : Nat} {a0 : Layout} {ρ : Type} {A : Int → Option ρ} {q : ρ} {ds : List D} {K : D → Prop} (hd : ds = [Layout.d a0]) (h : ∀ r, A r = some q → K (iN r)) (hF : (f23 N a0).bind A = some q) : ∃ d, G23 ds d ∧ K d := by
  obtain ⟨r, hr, hA⟩ := bind_some hF
  exact ⟨_, ⟨N, a0, r, hd, hr, rfl⟩, h r hA⟩
set_option maxRecDepth 20000 in
set_option maxHeartbeats 4000000 in
theorem P23 : PureOK Try.prog 23 G23 := by
  refine pure_of_vc (c := mkCtx tyTree [(59, true, purePg [[4], [0, 0, 0, 0]] G59), (47, true, purePg [[0, 0, 4]] G47), (21, true, purePg [[0, 0, 4]] G21)]) rfl tyOK (ctx_cons (callable Try.func59 rfl rfl) P59 (ctx_cons (callable Try.func47 rfl rfl) P47 (ctx_cons (callable Try.func21 rfl rfl) P21 (ctx_nil)))) [[0]] 1 Try.func23 rfl rfl (by decide) (by kernel_rfl) ?_
  rintro ds d ⟨N, a0, r, rfl, hF, rfl⟩ hok
  clear hok
  refine ⟨rfl, ?_⟩
  show vc _ _ _ _ ⟨[(0, .dat (Layout.d a0))], []⟩ _
  unfold f23 at hF
  repeat' (first
    | ((with_reducible refine q0 _ _ ?_); clear Q q0 q1 q2)
    | ((with_reducible refine q1 _ _ _ _ ?_); clear Q q0 q1 q2)
    | ((with_reducible refine q2 _ _ _ ?_); clear Q q0 q1 q2)
    | ((with_reducible refine seq_op ?hx (fun Q q0 q1 q2 => ?_)); (case hx => exact rfl); conv => whnf)
    | ((with_reducible refine draw_op ?hx (fun Q q0 q1 q2 => ?_)); (case hx => exact rfl); conv => whnf)
    | ((with_reducible refine seq_op0 ?hx (fun Q q0 q1 q2 => ?_)); (case hx => exact rfl); conv => whnf)
    | ((with_reducible refine draw_op0 ?hx (fun Q q0 q1 q2 => ?_)); (case hx => exact rfl); conv => whnf)
    | ((with_reducible refine seq_off ?hx ?_); (case hx => exact rfl))
    | ((with_reducible refine seq_off0 ?hx ?_); (case hx => exact rfl))
    | ((with_reducible refine draw_off ?hx ?_); (case hx => exact rfl))
    | ((with_reducible refine draw_off0 ?hx ?_); (case hx => exact rfl))
    | ((with_reducible refine seq_id ?_); (first | ((refine seq_opK rfl ?hy (fun Q q0 q1 q2 => ?_)); (case hy => first | assumption | exact notT (by assumption) | exact rfl); conv => whnf) | ((refine seq_offK rfl ?hy ?_); (case hy => first | assumption | exact notF (by assumption) | exact rfl)) | ((refine seq_opK0 rfl ?hy (fun Q q0 q1 q2 => ?_)); (case hy => first | assumption | exact notT (by assumption) | exact rfl); conv => whnf) | ((refine seq_offK0 rfl ?hy ?_); (case hy => first | assumption | exact notF (by assumption) | exact rfl)) | (revert hF; (with_reducible refine seq_opF ?hx ?_ ?_); (case hx => exact rfl); (intro hc hF Q q0 q1 q2; conv => whnf); rotate_left; (intro hc hF); rotate_right) | (revert hF; (with_reducible refine seq_opN ?hx ?_ ?_); (case hx => exact rfl); (intro hc hF); rotate_left; (intro hc hF Q q0 q1 q2; conv => whnf); rotate_right) | (revert hF; (with_reducible refine seq_opF0 ?hx ?_ ?_); (case hx => exact rfl); (intro hc hF Q q0 q1 q2; conv => whnf); rotate_left; (intro hc hF); rotate_right) | (revert hF; (with_reducible refine seq_opN0 ?hx ?_ ?_); (case hx => exact rfl); (intro hc hF); rotate_left; (intro hc hF Q q0 q1 q2; conv => whnf); rotate_right)))
    | ((with_reducible refine draw_id ?_); (first | ((refine draw_opK rfl ?hy (fun Q q0 q1 q2 => ?_)); (case hy => first | assumption | exact notT (by assumption) | exact rfl); conv => whnf) | ((refine draw_offK rfl ?hy ?_); (case hy => first | assumption | exact notF (by assumption) | exact rfl)) | ((refine draw_opK0 rfl ?hy (fun Q q0 q1 q2 => ?_)); (case hy => first | assumption | exact notT (by assumption) | exact rfl); conv => whnf) | ((refine draw_offK0 rfl ?hy ?_); (case hy => first | assumption | exact notF (by assumption) | exact rfl)) | (revert hF; (with_reducible refine draw_opF ?hx ?_ ?_); (case hx => exact rfl); (intro hc hF Q q0 q1 q2; conv => whnf); rotate_left; (intro hc hF); rotate_right) | (revert hF; (with_reducible refine draw_opN ?hx ?_ ?_); (case hx => exact rfl); (intro hc hF); rotate_left; (intro hc hF Q q0 q1 q2; conv => whnf); rotate_right) | (revert hF; (with_reducible refine draw_opF0 ?hx ?_ ?_); (case hx => exact rfl); (intro hc hF Q q0 q1 q2; conv => whnf); rotate_left; (intro hc hF); rotate_right) | (revert hF; (with_reducible refine draw_opN0 ?hx ?_ ?_); (case hx => exact rfl); (intro hc hF); rotate_left; (intro hc hF Q q0 q1 q2; conv => whnf); rotate_right)))
    | ((with_reducible refine cond_id ?_); (first | ((refine condKT rfl ?hy ?_); (case hy => first | assumption | exact notT (by assumption) | exact rfl)) | ((refine condKF rfl ?hy ?_); (case hy => first | assumption | exact notF (by assumption) | exact rfl)) | (revert hF; (with_reducible refine condF ?hx ?_ ?_); (case hx => exact rfl); all_goals (intro hc hF))))
    | ((with_reducible refine seq_nil ?_); (first | ((with_reducible refine hR _ ?_); clear R hR) | ((with_reducible refine hL _ ?_); clear L hL)))
    | ((with_reducible refine draw_nil ?_); (with_reducible refine hR _ _ ?hx ?_); (case hx => kernel_rfl); (first | clear R hR | clear hR))
    | ((with_reducible refine int_step ?_); conv => whnf)
    | ((with_reducible refine len_step ?_); conv => whnf)
    | ((with_reducible refine idx2 (by assumption) ?_); conv => whnf)
    | ((with_reducible refine idx3 (by assumption) ?_); conv => whnf)
    | with_reducible refine vc_block ?_
    | with_reducible refine vc_skip ?_
    | with_reducible refine vc_ret ?_
    | with_reducible refine vc_exit ?_
    | ((with_reducible refine vc_seqN [] ?hx ?_); (case hx => exact rfl))
    | (with_reducible refine vc_region (fun R hR => ?_))
    | ((with_reducible refine vc_draw ?hx (fun R hR => ?_)); (case hx => exact rfl))
    | fail
    | (revert hF; (with_reducible refine G21.step ?hx ?_); (case hx => exact rfl); intro v hF; conv => whnf)
    | (revert hF; (with_reducible refine G47.step ?hx ?_); (case hx => exact rfl); intro v hF; conv => whnf)
    | (revert hF; (with_reducible refine G59.step ?hx ?_); (case hx => exact rfl); intro v hF; conv => whnf)
    | with_reducible refine k_seq_ret ?_
    | with_reducible refine k_seq_exit ?_
    | with_reducible refine k_blk ?_
    | with_reducible refine k_blk_ret ?_
    | with_reducible refine k_blk_here ?_
    | ((with_reducible refine k_blk_out ?hx ?_); (case hx => exact rfl))
    | with_reducible refine k_loop_ret ?_
    | with_reducible refine k_loop_exit ?_
    | (revert hF; (with_reducible refine idx1 ?hn ?_); (case hn => first | exact rfl | exact (List.length_map _) | assumption | omega | simp); intro x hx hF; conv => whnf)
    | ((with_reducible have hG := sub_fact hF); clear hF; (first | (refine sub_step hG (fun q hF => ?_)) | (refine subrow_step hG ?hn (fun q hF => ?_); (case hn => first | exact rfl | assumption | omega))); clear hG; conv => whnf)
    | ((with_reducible have hG := app_fact hF); clear hF; (first | ((refine app_row hG ?hn ?hs (fun q hF => ?_)); (case hn => first | exact rfl | assumption | omega); (case hs => exact rfl)) ); clear hG; conv => whnf)
    | ((refine row_all ?hn ?_); (case hn => first | exact rfl | (simp; done) | (simp; omega)); conv => whnf)
    | ((with_reducible refine le_step ?hn ?_); (case hn => first | exact rfl | assumption | omega); conv => whnf)
    | ((with_reducible have hG := setx_fact hF); clear hF; (refine setx_step hG ?hs (fun q hl hF => ?_)); (case hs => exact rfl); clear hG; conv => whnf)
    | (revert hF; (with_reducible refine dem_step ?_ ?_); (intro hl hF; conv => whnf); rotate_left; (intro hF; conv => whnf); rotate_right)
    | ((refine ⟨?hx, ?_⟩); (case hx => exact ⟨rfl, Nat.le_of_ble_eq_true rfl, rfl⟩); conv => whnf)
    | ((with_reducible refine ex_step ?_); conv => whnf)
    | ((with_reducible have hG := chk_fact hF); clear hF; (refine ⟨?hx, ?_⟩); (case hx => (first | exact of_decide_eq_true hG.1 | exact hG.1)); have hF := hG.2; clear hG; conv => whnf)
    | ((with_reducible refine both_T ?hx ?_); (case hx => first | exact rfl | assumption | exact notT (by assumption)); conv => whnf)
    | ((with_reducible refine both_F ?hx ?_); (case hx => first | exact rfl | assumption | exact notF (by assumption)); conv => whnf)
    | (revert hF; (with_reducible refine ite_step ?_ ?_) <;> (intro hc hF; conv => whnf))
    | ((with_reducible refine vc_condT ?hx ?_); (case hx => exact rfl))
    | ((with_reducible refine vc_condF ?hx ?_); (case hx => exact rfl))
    | (show retD _ _ _ _ _ _; conv => whnf)
    | ((refine inl_step ?ha ?hb ?hc rfl ?_); (case ha => exact rfl); (case hb => omega); (case hc => exact Nat.le_of_ble_eq_true rfl))
    | (show Kinl _ _ _ _ _ _ _; conv => whnf)
    | ((with_reducible refine kinl_step ?ha ?hb ?_); (case ha => exact rfl); (case hb => exact rfl); conv => whnf)
    | ((refine ⟨?hx, trivial⟩); (case hx => (cases hF; exact rfl)))
    | ((refine ⟨?hx, ?_⟩); (case hx => decide); conv => whnf)
    | ((with_reducible refine k_seq ?_))
    | (have hF : (none : Option _) = some _ := hF; cases hF))
end Go.Vc
namespace Go.Vc
open Go.Proofs
set_option linter.unusedVariables false
set_option linter.unnecessarySimpa false
set_option linter.unusedSimpArgs false
/- f26: tusche/tuscheref06.Verify -/
def f26_c18 (a1 : List Cut) (v7 : Int) : Option (Int) :=
 bif decide (v7 < (List.length a1 : Int)) then (some ((21 : Int)))
 else (some ((0 : Int)))
def Sf26_c18 : Ann := ⟨[1, 7], [], [], []⟩
def Vf26_c18 (a1 : List Cut) (v7 : Int) : List SV := [.dat (sl_Cut a1), .dat (iN v7)]
def Bf26_c18 (a1 : List Cut) (v7 : Int) : List Blk := []
theorem Cf26_c18 {c : Ctx} {p nid : Nat} {a b : Code} {st : St} {K : Ex → St → Prop} {r : Int} {a1 : List Cut} {g : _ → Option (Int)} (hn : Nat.beq (nid * 1000 + firstRegion b) 18 = true) (hz : Sf26_c18.ok p = true)
    (h : g (f26_c18 a1) = some r → vc c p nid a st (Kseq (fun st' => st'.head Sf26_c18 fun v bl => ∃ x, (fun y : Int => f26_c18 a1 y = some r) x ∧ v = (fun y : Int => Vf26_c18 a1 y) x ∧ bl = (fun y : Int => Bf26_c18 a1 y) x) K))
    (h2 : ∀ (v7 : Int), f26_c18 a1 v7 = some r → vc c p nid b (St.mk' Sf26_c18 (Vf26_c18 a1 v7) (Bf26_c18 a1 v7)) K) (hF : joinK (f26_c18 a1) g = some r) : vc c p nid (.seq a b) st K :=
  vc_cut Sf26_c18 (fun y : Int => Vf26_c18 a1 y) (fun y : Int => Bf26_c18 a1 y) (fun y : Int => f26_c18 a1 y = some r) hz (h hF) fun y hy => h2 y hy
theorem Zf26_c18 {K : Ex → St → Prop} {r : Int} {a1 : List Cut} {v7 : Int} {st st' : St} (hF : f26_c18 a1 v7 = some r) (h1 : st.norm Sf26_c18 = some st') (h2 : st'.cutOk Sf26_c18.keep Sf26_c18.bs (memB Sf26_c18.bs) = true) (h3 : vals Sf26_c18.keep st'.e = Vf26_c18 a1 v7) (h4 : blks Sf26_c18.bs st'.m = Bf26_c18 a1 v7) :
    Kseq (fun st' => st'.head Sf26_c18 fun v bl => ∃ x, (fun y : Int => f26_c18 a1 y = some r) x ∧ v = (fun y : Int => Vf26_c18 a1 y) x ∧ bl = (fun y : Int => Bf26_c18 a1 y) x) K .normal st := by
  exact k_seq (head_in (I := (fun y : Int => f26_c18 a1 y = some r)) (x := (v7)) hF h1 h2 h3 h4)
def f26_6b (r6 : (List Label) → Int → Option (Int)) (a0 : Layout) (a1 : List Cut) (N : Nat) (k0 : Int → Option (Int)) (v6 : List Label) (v7 : Int) : Option (Int) :=
 bif decide ((0 : Int) < (List.length v6 : Int)) then ((ix v6 (W ((List.length v6 : Int) - (1 : Int)))).bind fun x3 =>
 (sub v6 0 (W ((List.length v6 : Int) - (1 : Int)))).bind fun x4 =>
 (f62 N a0.Labels x3).bind fun x5 =>
 bif decide ((List.length x5 : Int) < (2 : Int)) then (r6 x4 v7)
 else (bif decide (v7 = (List.length a1 : Int)) then (some ((22 : Int)))
 else ((ix a1 v7).bind fun x6 =>
 (f63 N x5 x3 x6).bind fun x7 =>
 bif !x7 then (some ((13 : Int)))
 else ((ix a1 v7).bind fun x8 =>
 (f64 N x3 x8).bind fun x9 =>
 (app 32 x4 [x9.2.1, x9.1]).bind fun x10 =>
 r6 x10 (W (v7 + (1 : Int)))))))
 else (k0 v7)
def f26_6 (a0 : Layout) (a1 : List Cut) (N : Nat) (k0 : Int → Option (Int)) : Nat → (List Label) → Int → Option (Int)
  | 0, _, _ => none
  | n + 1, v6, v7 => f26_6b (f26_6 a0 a1 N k0 n) a0 a1 N k0 v6 v7
def Sf26_6 : Ann := ⟨[1, 2, 6, 7], [0, 90006], [(.slot 6, 90006, 57, 4)], []⟩
def Vf26_6 (a0 : Layout) (a1 : List Cut) (v6 : List Label) (v7 : Int) : List SV := [.dat (sl_Cut a1), .ptr 0 0, .rs 90006 (List.length v6), .dat (iN v7)]
def Bf26_6 (a0 : Layout) (a1 : List Cut) (v6 : List Label) (v7 : Int) : List Blk := [.box [.dat (iN a0.W), .dat (iN a0.H), .dat (sl_Label a0.Labels)], .row 57 4 (List.map Label.d v6)]
def V2f26_6 (a0 : Layout) (a1 : List Cut) (v6 : List Label) (v7 : Int) (m0 : Nat) : List SV := [.dat (sl_Cut a1), .ptr 0 0, .rs 90006 m0, .dat (iN v7)]
def B2f26_6 (a0 : Layout) (a1 : List Cut) (v6 : List Label) (v7 : Int) (m0 : Nat) : List Blk := [.box [.dat (iN a0.W), .dat (iN a0.H), .dat (sl_Label a0.Labels)], .row 57 4 (List.map Label.d v6)]
theorem Lf26_6 {c : Ctx} {p nid : Nat} {a : Code} {K : Ex → St → Prop} {r : Int} {a0 : Layout} {a1 : List Cut} {N : Nat} {k0 : Int → Option (Int)} {fu : Nat} {v6 : List Label} {v7 : Int} {m0 : Nat} {st st' : St} (hz : Sf26_6.ok p = true) (h1 : st.norm Sf26_6 = some st') (h2 : st'.cutOk Sf26_6.keep Sf26_6.bs (memB Sf26_6.bs) = true) (h3 : vals Sf26_6.keep st'.e = V2f26_6 a0 a1 v6 v7 m0) (h4 : blks Sf26_6.bs st'.m = B2f26_6 a0 a1 v6 v7 m0) (em0 : m0 = List.length v6)
    (h : ∀ (n : Nat) (v6 : List Label) (v7 : Int), f26_6b (f26_6 a0 a1 N k0 n) a0 a1 N k0 v6 v7 = some r → vc c p nid a (St.mk' Sf26_6 (Vf26_6 a0 a1 v6 v7) (Bf26_6 a0 a1 v6 v7)) (Kloop Sf26_6 (fun y : Nat × (List Label) × Int => Vf26_6 a0 a1 y.2.1 y.2.2) (fun y : Nat × (List Label) × Int => Bf26_6 a0 a1 y.2.1 y.2.2) (fun y : Nat × (List Label) × Int => f26_6 a0 a1 N k0 y.1 y.2.1 y.2.2 = some r) (fun y : Nat × (List Label) × Int => y.1) (n + 1, v6, v7) K)) (hF : f26_6 a0 a1 N k0 fu v6 v7 = some r) : vc c p nid (.loop a) st K := by
  subst em0; refine vc_loop Sf26_6 (fun y : Nat × (List Label) × Int => Vf26_6 a0 a1 y.2.1 y.2.2) (fun y : Nat × (List Label) × Int => Bf26_6 a0 a1 y.2.1 y.2.2) (fun y : Nat × (List Label) × Int => f26_6 a0 a1 N k0 y.1 y.2.1 y.2.2 = some r) (fun y : Nat × (List Label) × Int => y.1) hz (head_in (x := (fu, v6, v7)) hF h1 h2 h3 h4) ?_
  rintro ⟨_ | n, v6, v7⟩ hI
  · cases hI
  · exact h n v6 v7 hI
theorem Mf26_6 {K : Ex → St → Prop} {r : Int} {a0 : Layout} {a1 : List Cut} {N : Nat} {k0 : Int → Option (Int)} {n : Nat} {v6 : List Label} {v7 : Int} {v6_ : List Label} {v7_ : Int} {m0 : Nat} {st st' : St} (hF : f26_6 a0 a1 N k0 n v6 v7 = some r) (h1 : st.norm Sf26_6 = some st') (h2 : st'.cutOk Sf26_6.keep Sf26_6.bs (memB Sf26_6.bs) = true) (h3 : vals Sf26_6.keep st'.e = V2f26_6 a0 a1 v6 v7 m0) (h4 : blks Sf26_6.bs st'.m = B2f26_6 a0 a1 v6 v7 m0) (em0 : m0 = List.length v6) :
    Kloop Sf26_6 (fun y : Nat × (List Label) × Int => Vf26_6 a0 a1 y.2.1 y.2.2) (fun y : Nat × (List Label) × Int => Bf26_6 a0 a1 y.2.1 y.2.2) (fun y : Nat × (List Label) × Int => f26_6 a0 a1 N k0 y.1 y.2.1 y.2.2 = some r) (fun y : Nat × (List Label) × Int => y.1) (n + 1, v6_, v7_) K .normal st := by
  subst em0; exact head_back (y := (n, v6, v7)) hF (Nat.lt_succ_self n) h1 h2 h3 h4
def f26 (N : Nat) (a0 : Layout) (a1 : List Cut) : Option (Int) :=
 (f21 N a0).bind fun x1 =>
 bif decide (¬ x1 = (0 : Int)) then (some (x1))
 else ((f47 N a0).bind fun x2 =>
 joinK (f26_c18 a1) fun k0 =>
 f26_6 a0 a1 N k0 N [x2] (0 : Int))
def G26 (ds : List D) (d : D) : Prop := ∃ (N : Nat) (a0 : Layout) (a1 : List Cut) (r : Int), ds = [Layout.d a0, sl_Cut a1] ∧ f26 N a0 a1 = some r ∧ d = iN r
theorem G26.step {N : Nat} {a0 : Layout} {a1 : List Cut} {ρ : Type} {A : Int → Option ρ} {q : ρ} {ds : List D} {K : D → Prop} (hd : ds = [Layout.d a0, sl_Cut a1]) (h : ∀ r, A r = some q → K (iN r)) (hF : (f26 N a0 a1).bind A = some q) : ∃ d, G26 ds d ∧ K d := by
  obtain ⟨r, hr, hA⟩ := bind_some hF
  exact ⟨_, ⟨N, a0, a1, r, hd, hr, rfl⟩, h r hA⟩
set_option maxRecDepth 20000 in
set_option maxHeartbeats 4000000 in
theorem P26 : PureOK Try.prog 26 G26 := by
  refine pure_of_vc (c := mkCtx tyTree [(64, true, purePg [[0, 0, 0, 0], [0, 0]] G64), (63, true, purePg [[4], [0, 0, 0, 0], [0, 0]] G63), (62, true, purePg [[4], [0, 0, 0, 0]] G62), (47, true, purePg [[0, 0, 4]] G47), (21, true, purePg [[0, 0, 4]] G21)]) rfl tyOK (ctx_cons (callable Try.func64 rfl rfl) P64 (ctx_cons (callable Try.func63 rfl rfl) P63 (ctx_cons (callable Try.func62 rfl rfl) P62 (ctx_cons (callable Try.func47 rfl rfl) P47 (ctx_cons (callable Try.func21 rfl rfl) P21 (ctx_nil)))))) [[0]] 2 Try.func26 rfl rfl (by decide) (by kernel_rfl) ?_
  rintro ds d ⟨N, a0, a1, r, rfl, hF, rfl⟩ hok
  clear hok
  refine ⟨rfl, ?_⟩
  show vc _ _ _ _ ⟨[(0, .dat (Layout.d a0)), (1, .dat (sl_Cut a1))], []⟩ _
  unfold f26 at hF
  repeat' (first
    | ((with_reducible refine q0 _ _ ?_); clear Q q0 q1 q2)
    | ((with_reducible refine q1 _ _ _ _ ?_); clear Q q0 q1 q2)
    | ((with_reducible refine q2 _ _ _ ?_); clear Q q0 q1 q2)
    | ((with_reducible refine seq_op ?hx (fun Q q0 q1 q2 => ?_)); (case hx => exact rfl); conv => whnf)
    | ((with_reducible refine draw_op ?hx (fun Q q0 q1 q2 => ?_)); (case hx => exact rfl); conv => whnf)
    | ((with_reducible refine seq_op0 ?hx (fun Q q0 q1 q2 => ?_)); (case hx => exact rfl); conv => whnf)
    | ((with_reducible refine draw_op0 ?hx (fun Q q0 q1 q2 => ?_)); (case hx => exact rfl); conv => whnf)
    | ((with_reducible refine seq_off ?hx ?_); (case hx => exact rfl))
    | ((with_reducible refine seq_off0 ?hx ?_); (case hx => exact rfl))
    | ((with_reducible refine draw_off ?hx ?_); (case hx => exact rfl))
    | ((with_reducible refine draw_off0 ?hx ?_); (case hx => exact rfl))
    | ((with_reducible refine seq_id ?_); (first | ((refine seq_opK rfl ?hy (fun Q q0 q1 q2 => ?_)); (case hy => first | assumption | exact notT (by assumption) | exact rfl); conv => whnf) | ((refine seq_offK rfl ?hy ?_); (case hy => first | assumption | exact notF (by assumption) | exact rfl)) | ((refine seq_opK0 rfl ?hy (fun Q q0 q1 q2 => ?_)); (case hy => first | assumption | exact notT (by assumption) | exact rfl); conv => whnf) | ((refine seq_offK0 rfl ?hy ?_); (case hy => first | assumption | exact notF (by assumption) | exact rfl)) | (revert hF; (with_reducible refine seq_opF ?hx ?_ ?_); (case hx => exact rfl); (intro hc hF Q q0 q1 q2; conv => whnf); rotate_left; (intro hc hF); rotate_right) | (revert hF; (with_reducible refine seq_opN ?hx ?_ ?_); (case hx => exact rfl); (intro hc hF); rotate_left; (intro hc hF Q q0 q1 q2; conv => whnf); rotate_right) | (revert hF; (with_reducible refine seq_opF0 ?hx ?_ ?_); (case hx => exact rfl); (intro hc hF Q q0 q1 q2; conv => whnf); rotate_left; (intro hc hF); rotate_right) | (revert hF; (with_reducible refine seq_opN0 ?hx ?_ ?_); (case hx => exact rfl); (intro hc hF); rotate_left; (intro hc hF Q q0 q1 q2; conv => whnf); rotate_right)))
    | ((with_reducible refine draw_id ?_); (first | ((refine draw_opK rfl ?hy (fun Q q0 q1 q2 => ?_)); (case hy => first | assumption | exact notT (by assumption) | exact rfl); conv => whnf) | ((refine draw_offK rfl ?hy ?_); (case hy => first | assumption | exact notF (by assumption) | exact rfl)) | ((refine draw_opK0 rfl ?hy (fun Q q0 q1 q2 => ?_)); (case hy => first | assumption | exact notT (by assumption) | exact rfl); conv => whnf) | ((refine draw_offK0 rfl ?hy ?_); (case hy => first | assumption | exact notF (by assumption) | exact rfl)) | (revert hF; (with_reducible refine draw_opF ?hx ?_ ?_); (case hx => exact rfl); (intro hc hF Q q0 q1 q2; conv => whnf); rotate_left; (intro hc hF); rotate_right) | (revert hF; (with_reducible refine draw_opN ?hx ?_ ?_); (case hx => exact rfl); (intro hc hF); rotate_left; (intro hc hF Q q0 q1 q2; conv => whnf); rotate_right) | (revert hF; (with_reducible refine draw_opF0 ?hx ?_ ?_); (case hx => exact rfl); (intro hc hF Q q0 q1 q2; conv => whnf); rotate_left; (intro hc hF); rotate_right) | (revert hF; (with_reducible refine draw_opN0 ?hx ?_ ?_); (case hx => exact rfl); (intro hc hF); rotate_left; (intro hc hF Q q0 q1 q2; conv => whnf); rotate_right)))
    | ((with_reducible refine cond_id ?_); (first | ((refine condKT rfl ?hy ?_); (case hy => first | assumption | exact notT (by assumption) | exact rfl)) | ((refine condKF rfl ?hy ?_); (case hy => first | assumption | exact notF (by assumption) | exact rfl)) | (revert hF; (with_reducible refine condF ?hx ?_ ?_); (case hx => exact rfl); all_goals (intro hc hF))))
    | ((with_reducible refine seq_nil ?_); (first | ((with_reducible refine hR _ ?_); clear R hR) | ((with_reducible refine hL _ ?_); clear L hL)))
    | ((with_reducible refine draw_nil ?_); (with_reducible refine hR _ _ ?hx ?_); (case hx => kernel_rfl); (first | clear R hR | clear hR))
    | ((with_reducible refine int_step ?_); conv => whnf)
    | ((with_reducible refine len_step ?_); conv => whnf)
    | ((with_reducible refine idx2 (by assumption) ?_); conv => whnf)
    | ((with_reducible refine idx3 (by assumption) ?_); conv => whnf)
    | with_reducible refine vc_block ?_
    | with_reducible refine vc_skip ?_
    | with_reducible refine vc_ret ?_
    | with_reducible refine vc_exit ?_
    | ((with_reducible refine vc_seqN [18] ?hx ?_); (case hx => exact rfl))
    | (with_reducible refine vc_region (fun R hR => ?_))
    | ((with_reducible refine vc_draw ?hx (fun R hR => ?_)); (case hx => exact rfl))
    | fail
    | (revert hF; (refine Cf26_c18 rfl rfl ?_ ?_); (intro hF); rotate_left; (intro v7 hF; unfold f26_c18 at hF); rotate_right)
    | exact Zf26_c18 hF rfl rfl rfl rfl
    | (revert hF; (refine Lf26_6 rfl rfl rfl rfl rfl (by first | exact rfl | assumption | omega) ?_); intro n v6 v7 hF; unfold f26_6b at hF)
    | exact Mf26_6 hF rfl rfl rfl rfl (by first | exact rfl | assumption | omega)
    | (revert hF; (with_reducible refine G21.step ?hx ?_); (case hx => exact rfl); intro v hF; conv => whnf)
    | (revert hF; (with_reducible refine G47.step ?hx ?_); (case hx => exact rfl); intro v hF; conv => whnf)
    | (revert hF; (with_reducible refine G62.step ?hx ?_); (case hx => exact rfl); intro v hF; conv => whnf)
    | (revert hF; (with_reducible refine G63.step ?hx ?_); (case hx => exact rfl); intro v hF; conv => whnf)
    | (revert hF; (with_reducible refine G64.step ?hx ?_); (case hx => exact rfl); intro v hF; conv => whnf)
    | with_reducible refine k_seq_ret ?_
    | with_reducible refine k_seq_exit ?_
    | with_reducible refine k_blk ?_
    | with_reducible refine k_blk_ret ?_
    | with_reducible refine k_blk_here ?_
    | ((with_reducible refine k_blk_out ?hx ?_); (case hx => exact rfl))
    | with_reducible refine k_loop_ret ?_
    | with_reducible refine k_loop_exit ?_
    | (revert hF; (with_reducible refine idx1 ?hn ?_); (case hn => first | exact rfl | exact (List.length_map _) | assumption | omega | simp); intro x hx hF; conv => whnf)
    | ((with_reducible have hG := sub_fact hF); clear hF; (first | (refine sub_step hG (fun q hF => ?_)) | (refine subrow_step hG ?hn (fun q hF => ?_); (case hn => first | exact rfl | assumption | omega))); clear hG; conv => whnf)
    | ((with_reducible have hG := app_fact hF); clear hF; (first | ((refine app_row hG ?hn ?hs (fun q hF => ?_)); (case hn => first | exact rfl | assumption | omega); (case hs => exact rfl)) | ((refine app_nil (d := Label.d) hG ?hs (fun q hF => ?_)); (case hs => exact rfl)) | ((refine app_gen (d := Label.d) hG ?ho ?hn ?hs (fun q hF => ?_)); (case ho => exact rfl); (case hn => exact rfl); (case hs => exact rfl))); clear hG; conv => whnf)
    | ((refine row_all ?hn ?_); (case hn => first | exact rfl | (simp; done) | (simp; omega)); conv => whnf)
    | ((with_reducible refine le_step ?hn ?_); (case hn => first | exact rfl | assumption | omega); conv => whnf)
    | ((with_reducible have hG := setx_fact hF); clear hF; (refine setx_step hG ?hs (fun q hl hF => ?_)); (case hs => exact rfl); clear hG; conv => whnf)
    | (revert hF; (with_reducible refine dem_step ?_ ?_); (intro hl hF; conv => whnf); rotate_left; (intro hF; conv => whnf); rotate_right)
    | ((refine ⟨?hx, ?_⟩); (case hx => exact ⟨rfl, Nat.le_of_ble_eq_true rfl, rfl⟩); conv => whnf)
    | ((with_reducible refine ex_step ?_); conv => whnf)
    | ((with_reducible have hG := chk_fact hF); clear hF; (refine ⟨?hx, ?_⟩); (case hx => (first | exact of_decide_eq_true hG.1 | exact hG.1)); have hF := hG.2; clear hG; conv => whnf)
    | ((with_reducible refine both_T ?hx ?_); (case hx => first | exact rfl | assumption | exact notT (by assumption)); conv => whnf)
    | ((with_reducible refine both_F ?hx ?_); (case hx => first | exact rfl | assumption | exact notF (by assumption)); conv => whnf)
    | (revert hF; (with_reducible refine ite_step ?_ ?_) <;> (intro hc hF; conv => whnf))
    | ((with_reducible refine vc_condT ?hx ?_); (case hx => exact rfl))
    | ((with_reducible refine vc_condF ?hx ?_); (case hx => exact rfl))
    | (show retD _ _ _ _ _ _; conv => whnf)
    | ((refine inl_step ?ha ?hb ?hc rfl ?_); (case ha => exact rfl); (case hb => omega); (case hc => exact Nat.le_of_ble_eq_true rfl))
    | (show Kinl _ _ _ _ _ _ _; conv => whnf)
    | ((with_reducible refine kinl_step ?ha ?hb ?_); (case ha => exact rfl); (case hb => exact rfl); conv => whnf)
    | ((refine ⟨?hx, trivial⟩); (case hx => (cases hF; exact rfl)))
    | ((refine ⟨?hx, ?_⟩); (case hx => decide); conv => whnf)
    | ((with_reducible refine k_seq ?_))
    | (have hF : (none : Option _) = some _ := hF; cases hF))
end Go.Vc
namespace Go.Vc
open Go.Proofs
set_option linter.unusedVariables false
set_option linter.unnecessarySimpa false
set_option linter.unusedSimpArgs false
/- f27: tusche/tuschelaw06.planned -/
def f27_c6 (out3 : List Cut) : Option ((List Cut)) :=
 some (out3)
def Sf27_c6 : Ann := ⟨[3], [90003], [(.slot 3, 90003, 44, 2)], []⟩
def Vf27_c6 (out3 : List Cut) : List SV := [.rs 90003 (List.length out3)]
def Bf27_c6 (out3 : List Cut) : List Blk := [.row 44 2 (List.map Cut.d out3)]
theorem Cf27_c6 {c : Ctx} {p nid : Nat} {a b : Code} {st : St} {K : Ex → St → Prop} {r : (List Cut)} {g : _ → Option ((List Cut))} (hn : Nat.beq (nid * 1000 + firstRegion b) 6 = true) (hz : Sf27_c6.ok p = true)
    (h : g f27_c6 = some r → vc c p nid a st (Kseq (fun st' => st'.head Sf27_c6 fun v bl => ∃ x, (fun y : (List Cut) => f27_c6  y = some r) x ∧ v = (fun y : (List Cut) => Vf27_c6  y) x ∧ bl = (fun y : (List Cut) => Bf27_c6  y) x) K))
    (h2 : ∀ (out3 : List Cut), f27_c6  out3 = some r → vc c p nid b (St.mk' Sf27_c6 (Vf27_c6  out3) (Bf27_c6  out3)) K) (hF : joinK f27_c6 g = some r) : vc c p nid (.seq a b) st K :=
  vc_cut Sf27_c6 (fun y : (List Cut) => Vf27_c6  y) (fun y : (List Cut) => Bf27_c6  y) (fun y : (List Cut) => f27_c6  y = some r) hz (h hF) fun y hy => h2 y hy
def V2f27_c6 (out3 : List Cut) (m0 : Nat) : List SV := [.rs 90003 m0]
def B2f27_c6 (out3 : List Cut) (m0 : Nat) : List Blk := [.row 44 2 (List.map Cut.d out3)]
theorem Zf27_c6 {K : Ex → St → Prop} {r : (List Cut)} {out3 : List Cut} {m0 : Nat} {st st' : St} (hF : f27_c6  out3 = some r) (h1 : st.norm Sf27_c6 = some st') (h2 : st'.cutOk Sf27_c6.keep Sf27_c6.bs (memB Sf27_c6.bs) = true) (h3 : vals Sf27_c6.keep st'.e = V2f27_c6  out3 m0) (h4 : blks Sf27_c6.bs st'.m = B2f27_c6  out3 m0) (em0 : m0 = List.length out3) :
    Kseq (fun st' => st'.head Sf27_c6 fun v bl => ∃ x, (fun y : (List Cut) => f27_c6  y = some r) x ∧ v = (fun y : (List Cut) => Vf27_c6  y) x ∧ bl = (fun y : (List Cut) => Bf27_c6  y) x) K .normal st := by
  subst em0; exact k_seq (head_in (I := (fun y : (List Cut) => f27_c6  y = some r)) (x := (out3)) hF h1 h2 h3 h4)
def f27_3b (r3 : (List Cut) → Int → Option ((List Cut))) (a0 : List Cut) (k0 : (List Cut) → Option ((List Cut))) (out3 : List Cut) (i4 : Int) : Option ((List Cut)) :=
 bif decide (i4 < (List.length a0 : Int)) then ((ix a0 i4).bind fun x1 =>
 (app 16 out3 [x1]).bind fun x2 =>
 r3 x2 (W (i4 + (1 : Int))))
 else (k0 out3)
def f27_3 (a0 : List Cut) (k0 : (List Cut) → Option ((List Cut))) : Nat → (List Cut) → Int → Option ((List Cut))
  | 0, _, _ => none
  | n + 1, out3, i4 => f27_3b (f27_3 a0 k0 n) a0 k0 out3 i4
def Sf27_3 : Ann := ⟨[0, 3, 4], [90003], [(.slot 3, 90003, 44, 2)], []⟩
def Vf27_3 (a0 : List Cut) (out3 : List Cut) (i4 : Int) : List SV := [.dat (sl_Cut a0), .rs 90003 (List.length out3), .dat (iN i4)]
def Bf27_3 (a0 : List Cut) (out3 : List Cut) (i4 : Int) : List Blk := [.row 44 2 (List.map Cut.d out3)]
def V2f27_3 (a0 : List Cut) (out3 : List Cut) (i4 : Int) (m0 : Nat) : List SV := [.dat (sl_Cut a0), .rs 90003 m0, .dat (iN i4)]
def B2f27_3 (a0 : List Cut) (out3 : List Cut) (i4 : Int) (m0 : Nat) : List Blk := [.row 44 2 (List.map Cut.d out3)]
theorem Lf27_3 {c : Ctx} {p nid : Nat} {a : Code} {K : Ex → St → Prop} {r : (List Cut)} {a0 : List Cut} {k0 : (List Cut) → Option ((List Cut))} {fu : Nat} {out3 : List Cut} {i4 : Int} {m0 : Nat} {st st' : St} (hz : Sf27_3.ok p = true) (h1 : st.norm Sf27_3 = some st') (h2 : st'.cutOk Sf27_3.keep Sf27_3.bs (memB Sf27_3.bs) = true) (h3 : vals Sf27_3.keep st'.e = V2f27_3 a0 out3 i4 m0) (h4 : blks Sf27_3.bs st'.m = B2f27_3 a0 out3 i4 m0) (em0 : m0 = List.length out3)
    (h : ∀ (n : Nat) (out3 : List Cut) (i4 : Int), f27_3b (f27_3 a0 k0 n) a0 k0 out3 i4 = some r → vc c p nid a (St.mk' Sf27_3 (Vf27_3 a0 out3 i4) (Bf27_3 a0 out3 i4)) (Kloop Sf27_3 (fun y : Nat × (List Cut) × Int => Vf27_3 a0 y.2.1 y.2.2) (fun y : Nat × (List Cut) × Int => Bf27_3 a0 y.2.1 y.2.2) (fun y : Nat × (List Cut) × Int => f27_3 a0 k0 y.1 y.2.1 y.2.2 = some r) (fun y : Nat × (List Cut) × Int => y.1) (n + 1, out3, i4) K)) (hF : f27_3 a0 k0 fu out3 i4 = some r) : vc c p nid (.loop a) st K := by
  subst em0; refine vc_loop Sf27_3 (fun y : Nat × (List Cut) × Int => Vf27_3 a0 y.2.1 y.2.2) (fun y : Nat × (List Cut) × Int => Bf27_3 a0 y.2.1 y.2.2) (fun y : Nat × (List Cut) × Int => f27_3 a0 k0 y.1 y.2.1 y.2.2 = some r) (fun y : Nat × (List Cut) × Int => y.1) hz (head_in (x := (fu, out3, i4)) hF h1 h2 h3 h4) ?_
  rintro ⟨_ | n, out3, i4⟩ hI
  · cases hI
  · exact h n out3 i4 hI
theorem Mf27_3 {K : Ex → St → Prop} {r : (List Cut)} {a0 : List Cut} {k0 : (List Cut) → Option ((List Cut))} {n : Nat} {out3 : List Cut} {i4 : Int} {out3_ : List Cut} {i4_ : Int} {m0 : Nat} {st st' : St} (hF : f27_3 a0 k0 n out3 i4 = some r) (h1 : st.norm Sf27_3 = some st') (h2 : st'.cutOk Sf27_3.keep Sf27_3.bs (memB Sf27_3.bs) = true) (h3 : vals Sf27_3.keep st'.e = V2f27_3 a0 out3 i4 m0) (h4 : blks Sf27_3.bs st'.m = B2f27_3 a0 out3 i4 m0) (em0 : m0 = List.length out3) :
    Kloop Sf27_3 (fun y : Nat × (List Cut) × Int => Vf27_3 a0 y.2.1 y.2.2) (fun y : Nat × (List Cut) × Int => Bf27_3 a0 y.2.1 y.2.2) (fun y : Nat × (List Cut) × Int => f27_3 a0 k0 y.1 y.2.1 y.2.2 = some r) (fun y : Nat × (List Cut) × Int => y.1) (n + 1, out3_, i4_) K .normal st := by
  subst em0; exact head_back (y := (n, out3, i4)) hF (Nat.lt_succ_self n) h1 h2 h3 h4
def f27 (N : Nat) (a0 : List Cut) : Option ((List Cut)) :=
 joinK f27_c6 fun k0 =>
 f27_3 a0 k0 N [] (0 : Int)
def G27 (ds : List D) (d : D) : Prop := ∃ (N : Nat) (a0 : List Cut) (r : (List Cut)), ds = [sl_Cut a0] ∧ f27 N a0 = some r ∧ d = sl_Cut r
theorem G27.step {N : Nat} {a0 : List Cut} {ρ : Type} {A : (List Cut) → Option ρ} {q : ρ} {ds : List D} {K : D → Prop} (hd : ds = [sl_Cut a0]) (h : ∀ r, A r = some q → K (sl_Cut r)) (hF : (f27 N a0).bind A = some q) : ∃ d, G27 ds d ∧ K d := by
  obtain ⟨r, hr, hA⟩ := bind_some hF
  exact ⟨_, ⟨N, a0, r, hd, hr, rfl⟩, h r hA⟩
set_option maxRecDepth 20000 in
set_option maxHeartbeats 4000000 in
theorem P27 : PureOK Try.prog 27 G27 := by
  refine pure_of_vc (c := mkCtx tyTree []) rfl tyOK (ctx_nil) [[2]] 1 Try.func27 rfl rfl (by decide) (by kernel_rfl) ?_
  rintro ds d ⟨N, a0, r, rfl, hF, rfl⟩ hok
  clear hok
  refine ⟨rfl, ?_⟩
  show vc _ _ _ _ ⟨[(0, .dat (sl_Cut a0))], []⟩ _
  unfold f27 at hF
  repeat' (first
    | ((with_reducible refine q0 _ _ ?_); clear Q q0 q1 q2)
    | ((with_reducible refine q1 _ _ _ _ ?_); clear Q q0 q1 q2)
    | ((with_reducible refine q2 _ _ _ ?_); clear Q q0 q1 q2)
    | ((with_reducible refine seq_op ?hx (fun Q q0 q1 q2 => ?_)); (case hx => exact rfl); conv => whnf)
    | ((with_reducible refine draw_op ?hx (fun Q q0 q1 q2 => ?_)); (case hx => exact rfl); conv => whnf)
    | ((with_reducible refine seq_op0 ?hx (fun Q q0 q1 q2 => ?_)); (case hx => exact rfl); conv => whnf)
    | ((with_reducible refine draw_op0 ?hx (fun Q q0 q1 q2 => ?_)); (case hx => exact rfl); conv => whnf)
    | ((with_reducible refine seq_off ?hx ?_); (case hx => exact rfl))
    | ((with_reducible refine seq_off0 ?hx ?_); (case hx => exact rfl))
    | ((with_reducible refine draw_off ?hx ?_); (case hx => exact rfl))
    | ((with_reducible refine draw_off0 ?hx ?_); (case hx => exact rfl))
    | ((with_reducible refine seq_id ?_); (first | ((refine seq_opK rfl ?hy (fun Q q0 q1 q2 => ?_)); (case hy => first | assumption | exact notT (by assumption) | exact rfl); conv => whnf) | ((refine seq_offK rfl ?hy ?_); (case hy => first | assumption | exact notF (by assumption) | exact rfl)) | ((refine seq_opK0 rfl ?hy (fun Q q0 q1 q2 => ?_)); (case hy => first | assumption | exact notT (by assumption) | exact rfl); conv => whnf) | ((refine seq_offK0 rfl ?hy ?_); (case hy => first | assumption | exact notF (by assumption) | exact rfl)) | (revert hF; (with_reducible refine seq_opF ?hx ?_ ?_); (case hx => exact rfl); (intro hc hF Q q0 q1 q2; conv => whnf); rotate_left; (intro hc hF); rotate_right) | (revert hF; (with_reducible refine seq_opN ?hx ?_ ?_); (case hx => exact rfl); (intro hc hF); rotate_left; (intro hc hF Q q0 q1 q2; conv => whnf); rotate_right) | (revert hF; (with_reducible refine seq_opF0 ?hx ?_ ?_); (case hx => exact rfl); (intro hc hF Q q0 q1 q2; conv => whnf); rotate_left; (intro hc hF); rotate_right) | (revert hF; (with_reducible refine seq_opN0 ?hx ?_ ?_); (case hx => exact rfl); (intro hc hF); rotate_left; (intro hc hF Q q0 q1 q2; conv => whnf); rotate_right)))
    | ((with_reducible refine draw_id ?_); (first | ((refine draw_opK rfl ?hy (fun Q q0 q1 q2 => ?_)); (case hy => first | assumption | exact notT (by assumption) | exact rfl); conv => whnf) | ((refine draw_offK rfl ?hy ?_); (case hy => first | assumption | exact notF (by assumption) | exact rfl)) | ((refine draw_opK0 rfl ?hy (fun Q q0 q1 q2 => ?_)); (case hy => first | assumption | exact notT (by assumption) | exact rfl); conv => whnf) | ((refine draw_offK0 rfl ?hy ?_); (case hy => first | assumption | exact notF (by assumption) | exact rfl)) | (revert hF; (with_reducible refine draw_opF ?hx ?_ ?_); (case hx => exact rfl); (intro hc hF Q q0 q1 q2; conv => whnf); rotate_left; (intro hc hF); rotate_right) | (revert hF; (with_reducible refine draw_opN ?hx ?_ ?_); (case hx => exact rfl); (intro hc hF); rotate_left; (intro hc hF Q q0 q1 q2; conv => whnf); rotate_right) | (revert hF; (with_reducible refine draw_opF0 ?hx ?_ ?_); (case hx => exact rfl); (intro hc hF Q q0 q1 q2; conv => whnf); rotate_left; (intro hc hF); rotate_right) | (revert hF; (with_reducible refine draw_opN0 ?hx ?_ ?_); (case hx => exact rfl); (intro hc hF); rotate_left; (intro hc hF Q q0 q1 q2; conv => whnf); rotate_right)))
    | ((with_reducible refine cond_id ?_); (first | ((refine condKT rfl ?hy ?_); (case hy => first | assumption | exact notT (by assumption) | exact rfl)) | ((refine condKF rfl ?hy ?_); (case hy => first | assumption | exact notF (by assumption) | exact rfl)) | (revert hF; (with_reducible refine condF ?hx ?_ ?_); (case hx => exact rfl); all_goals (intro hc hF))))
    | ((with_reducible refine seq_nil ?_); (first | ((with_reducible refine hR _ ?_); clear R hR) | ((with_reducible refine hL _ ?_); clear L hL)))
    | ((with_reducible refine draw_nil ?_); (with_reducible refine hR _ _ ?hx ?_); (case hx => kernel_rfl); (first | clear R hR | clear hR))
    | ((with_reducible refine int_step ?_); conv => whnf)
    | ((with_reducible refine len_step ?_); conv => whnf)
    | ((with_reducible refine idx2 (by assumption) ?_); conv => whnf)
    | ((with_reducible refine idx3 (by assumption) ?_); conv => whnf)
    | with_reducible refine vc_block ?_
    | with_reducible refine vc_skip ?_
    | with_reducible refine vc_ret ?_
    | with_reducible refine vc_exit ?_
    | ((with_reducible refine vc_seqN [6] ?hx ?_); (case hx => exact rfl))
    | (with_reducible refine vc_region (fun R hR => ?_))
    | ((with_reducible refine vc_draw ?hx (fun R hR => ?_)); (case hx => exact rfl))
    | fail
    | (revert hF; (refine Cf27_c6 rfl rfl ?_ ?_); (intro hF); rotate_left; (intro out3 hF; unfold f27_c6 at hF); rotate_right)
    | exact Zf27_c6 hF rfl rfl rfl rfl (by first | exact rfl | assumption | omega)
    | (revert hF; (refine Lf27_3 rfl rfl rfl rfl rfl (by first | exact rfl | assumption | omega) ?_); intro n out3 i4 hF; unfold f27_3b at hF)
    | exact Mf27_3 hF rfl rfl rfl rfl (by first | exact rfl | assumption | omega)
    | with_reducible refine k_seq_ret ?_
    | with_reducible refine k_seq_exit ?_
    | with_reducible refine k_blk ?_
    | with_reducible refine k_blk_ret ?_
    | with_reducible refine k_blk_here ?_
    | ((with_reducible refine k_blk_out ?hx ?_); (case hx => exact rfl))
    | with_reducible refine k_loop_ret ?_
    | with_reducible refine k_loop_exit ?_
    | (revert hF; (with_reducible refine idx1 ?hn ?_); (case hn => first | exact rfl | exact (List.length_map _) | assumption | omega | simp); intro x hx hF; conv => whnf)
    | ((with_reducible have hG := sub_fact hF); clear hF; (first | (refine sub_step hG (fun q hF => ?_)) | (refine subrow_step hG ?hn (fun q hF => ?_); (case hn => first | exact rfl | assumption | omega))); clear hG; conv => whnf)
    | ((with_reducible have hG := app_fact hF); clear hF; (first | ((refine app_row hG ?hn ?hs (fun q hF => ?_)); (case hn => first | exact rfl | assumption | omega); (case hs => exact rfl)) | ((refine app_nil (d := Cut.d) hG ?hs (fun q hF => ?_)); (case hs => exact rfl)) | ((refine app_gen (d := Cut.d) hG ?ho ?hn ?hs (fun q hF => ?_)); (case ho => exact rfl); (case hn => exact rfl); (case hs => exact rfl))); clear hG; conv => whnf)
    | ((refine row_all ?hn ?_); (case hn => first | exact rfl | (simp; done) | (simp; omega)); conv => whnf)
    | ((with_reducible refine le_step ?hn ?_); (case hn => first | exact rfl | assumption | omega); conv => whnf)
    | ((with_reducible have hG := setx_fact hF); clear hF; (refine setx_step hG ?hs (fun q hl hF => ?_)); (case hs => exact rfl); clear hG; conv => whnf)
    | (revert hF; (with_reducible refine dem_step ?_ ?_); (intro hl hF; conv => whnf); rotate_left; (intro hF; conv => whnf); rotate_right)
    | ((refine ⟨?hx, ?_⟩); (case hx => exact ⟨rfl, Nat.le_of_ble_eq_true rfl, rfl⟩); conv => whnf)
    | ((with_reducible refine ex_step ?_); conv => whnf)
    | ((with_reducible have hG := chk_fact hF); clear hF; (refine ⟨?hx, ?_⟩); (case hx => (first | exact of_decide_eq_true hG.1 | exact hG.1)); have hF := hG.2; clear hG; conv => whnf)
    | ((with_reducible refine both_T ?hx ?_); (case hx => first | exact rfl | assumption | exact notT (by assumption)); conv => whnf)
    | ((with_reducible refine both_F ?hx ?_); (case hx => first | exact rfl | assumption | exact notF (by assumption)); conv => whnf)
    | (revert hF; (with_reducible refine ite_step ?_ ?_) <;> (intro hc hF; conv => whnf))
    | ((with_reducible refine vc_condT ?hx ?_); (case hx => exact rfl))
    | ((with_reducible refine vc_condF ?hx ?_); (case hx => exact rfl))
    | (show retD _ _ _ _ _ _; conv => whnf)
    | ((refine inl_step ?ha ?hb ?hc rfl ?_); (case ha => exact rfl); (case hb => omega); (case hc => exact Nat.le_of_ble_eq_true rfl))
    | (show Kinl _ _ _ _ _ _ _; conv => whnf)
    | ((with_reducible refine kinl_step ?ha ?hb ?_); (case ha => exact rfl); (case hb => exact rfl); conv => whnf)
    | ((refine ⟨?hx, trivial⟩); (case hx => (cases hF; exact rfl)))
    | ((refine ⟨?hx, ?_⟩); (case hx => decide); conv => whnf)
    | ((with_reducible refine k_seq ?_))
    | (have hF : (none : Option _) = some _ := hF; cases hF))
end Go.Vc
namespace Go.Vc
open Go.Proofs
set_option linter.unusedVariables false
set_option linter.unnecessarySimpa false
set_option linter.unusedSimpArgs false
/- f65: tusche/tuscheref06.reached -/
def f65_c10 : Option (Bool) :=
 some (false)
def Sf65_c10 : Ann := ⟨[], [], [], []⟩
def Vf65_c10 : List SV := []
def Bf65_c10 : List Blk := []
theorem Cf65_c10 {c : Ctx} {p nid : Nat} {a b : Code} {st : St} {K : Ex → St → Prop} {r : Bool} {g : _ → Option (Bool)} (hn : Nat.beq (nid * 1000 + firstRegion b) 10 = true) (hz : Sf65_c10.ok p = true)
    (h : g f65_c10 = some r → vc c p nid a st (Kseq (fun st' => st'.head Sf65_c10 fun v bl => ∃ x, (fun y : Unit => f65_c10   = some r) x ∧ v = (fun y : Unit => Vf65_c10  ) x ∧ bl = (fun y : Unit => Bf65_c10  ) x) K))
    (h2 : ∀ (_ : Unit), f65_c10   = some r → vc c p nid b (St.mk' Sf65_c10 (Vf65_c10  ) (Bf65_c10  )) K) (hF : joinK f65_c10 g = some r) : vc c p nid (.seq a b) st K :=
  vc_cut Sf65_c10 (fun y : Unit => Vf65_c10  ) (fun y : Unit => Bf65_c10  ) (fun y : Unit => f65_c10   = some r) hz (h hF) fun y hy => h2 () hy
theorem Zf65_c10 {K : Ex → St → Prop} {r : Bool} {st st' : St} (hF : f65_c10   = some r) (h1 : st.norm Sf65_c10 = some st') (h2 : st'.cutOk Sf65_c10.keep Sf65_c10.bs (memB Sf65_c10.bs) = true) (h3 : vals Sf65_c10.keep st'.e = Vf65_c10  ) (h4 : blks Sf65_c10.bs st'.m = Bf65_c10  ) :
    Kseq (fun st' => st'.head Sf65_c10 fun v bl => ∃ x, (fun y : Unit => f65_c10   = some r) x ∧ v = (fun y : Unit => Vf65_c10  ) x ∧ bl = (fun y : Unit => Bf65_c10  ) x) K .normal st := by
  exact k_seq (head_in (I := (fun y : Unit => f65_c10   = some r)) (x := ()) hF h1 h2 h3 h4)
def f65_5b (r5 : Int → Option (Bool)) (a0 : List Label) (a1 : Label) (a2 : Label) (N : Nat) (self : (List Label) → Label → Label → Option (Bool)) (x1 : List Cut) (k0 : Option (Bool)) (i8 : Int) : Option (Bool) :=
 bif decide (i8 < (List.length x1 : Int)) then ((ix x1 i8).bind fun x2 =>
 (f64 N a1 x2).bind fun x3 =>
 (f62 N a0 x3.1).bind fun x4 =>
 (self x4 x3.1 a2).bind fun x5 =>
 bif x5 then (some (true))
 else ((f62 N a0 x3.2.1).bind fun x6 =>
 (self x6 x3.2.1 a2).bind fun x7 =>
 bif x7 then (some (true))
 else (r5 (W (i8 + (1 : Int))))))
 else k0
def f65_5 (a0 : List Label) (a1 : Label) (a2 : Label) (N : Nat) (self : (List Label) → Label → Label → Option (Bool)) (x1 : List Cut) (k0 : Option (Bool)) : Nat → Int → Option (Bool)
  | 0, _ => none
  | n + 1, i8 => f65_5b (f65_5 a0 a1 a2 N self x1 k0 n) a0 a1 a2 N self x1 k0 i8
def Sf65_5 : Ann := ⟨[0, 4, 5, 7, 8], [0, 1], [], []⟩
def Vf65_5 (a0 : List Label) (a1 : Label) (a2 : Label) (x1 : List Cut) (i8 : Int) : List SV := [.dat (sl_Label a0), .ptr 0 0, .ptr 1 0, .dat (sl_Cut x1), .dat (iN i8)]
def Bf65_5 (a0 : List Label) (a1 : Label) (a2 : Label) (x1 : List Cut) (i8 : Int) : List Blk := [.box [.dat (iN a1.X), .dat (iN a1.Y), .dat (iN a1.W), .dat (iN a1.H)], .box [.dat (iN a2.X), .dat (iN a2.Y), .dat (iN a2.W), .dat (iN a2.H)]]
theorem Lf65_5 {c : Ctx} {p nid : Nat} {a : Code} {K : Ex → St → Prop} {r : Bool} {a0 : List Label} {a1 : Label} {a2 : Label} {N : Nat} {self : (List Label) → Label → Label → Option (Bool)} {x1 : List Cut} {k0 : Option (Bool)} {fu : Nat} {i8 : Int} {st st' : St} (hz : Sf65_5.ok p = true) (h1 : st.norm Sf65_5 = some st') (h2 : st'.cutOk Sf65_5.keep Sf65_5.bs (memB Sf65_5.bs) = true) (h3 : vals Sf65_5.keep st'.e = Vf65_5 a0 a1 a2 x1 i8) (h4 : blks Sf65_5.bs st'.m = Bf65_5 a0 a1 a2 x1 i8)
    (h : ∀ (n : Nat) (i8 : Int), f65_5b (f65_5 a0 a1 a2 N self x1 k0 n) a0 a1 a2 N self x1 k0 i8 = some r → vc c p nid a (St.mk' Sf65_5 (Vf65_5 a0 a1 a2 x1 i8) (Bf65_5 a0 a1 a2 x1 i8)) (Kloop Sf65_5 (fun y : Nat × Int => Vf65_5 a0 a1 a2 x1 y.2) (fun y : Nat × Int => Bf65_5 a0 a1 a2 x1 y.2) (fun y : Nat × Int => f65_5 a0 a1 a2 N self x1 k0 y.1 y.2 = some r) (fun y : Nat × Int => y.1) (n + 1, i8) K)) (hF : f65_5 a0 a1 a2 N self x1 k0 fu i8 = some r) : vc c p nid (.loop a) st K := by
  refine vc_loop Sf65_5 (fun y : Nat × Int => Vf65_5 a0 a1 a2 x1 y.2) (fun y : Nat × Int => Bf65_5 a0 a1 a2 x1 y.2) (fun y : Nat × Int => f65_5 a0 a1 a2 N self x1 k0 y.1 y.2 = some r) (fun y : Nat × Int => y.1) hz (head_in (x := (fu, i8)) hF h1 h2 h3 h4) ?_
  rintro ⟨_ | n, i8⟩ hI
  · cases hI
  · exact h n i8 hI
theorem Mf65_5 {K : Ex → St → Prop} {r : Bool} {a0 : List Label} {a1 : Label} {a2 : Label} {N : Nat} {self : (List Label) → Label → Label → Option (Bool)} {x1 : List Cut} {k0 : Option (Bool)} {n : Nat} {i8 : Int} {i8_ : Int} {st st' : St} (hF : f65_5 a0 a1 a2 N self x1 k0 n i8 = some r) (h1 : st.norm Sf65_5 = some st') (h2 : st'.cutOk Sf65_5.keep Sf65_5.bs (memB Sf65_5.bs) = true) (h3 : vals Sf65_5.keep st'.e = Vf65_5 a0 a1 a2 x1 i8) (h4 : blks Sf65_5.bs st'.m = Bf65_5 a0 a1 a2 x1 i8) :
    Kloop Sf65_5 (fun y : Nat × Int => Vf65_5 a0 a1 a2 x1 y.2) (fun y : Nat × Int => Bf65_5 a0 a1 a2 x1 y.2) (fun y : Nat × Int => f65_5 a0 a1 a2 N self x1 k0 y.1 y.2 = some r) (fun y : Nat × Int => y.1) (n + 1, i8_) K .normal st := by
  exact head_back (y := (n, i8)) hF (Nat.lt_succ_self n) h1 h2 h3 h4
def f65b (self : (List Label) → Label → Label → Option (Bool)) (N : Nat) (a0 : List Label) (a1 : Label) (a2 : Label) : Option (Bool) :=
 bif (decide (a1.X = a2.X) && (decide (a1.Y = a2.Y) && (decide (a1.W = a2.W) && (decide (a1.H = a2.H) && true)))) then (some (true))
 else ((f46 N a0 a1).bind fun x1 =>
 joinK f65_c10 fun k0 =>
 f65_5 a0 a1 a2 N self x1 k0 N (0 : Int))
def f65 : Nat → (List Label) → Label → Label → Option (Bool)
  | 0, _, _, _ => none
  | N + 1, a0, a1, a2 => f65b (f65 N) N a0 a1 a2
def H65 (N : Nat) (ds : List D) (d : D) : Prop := ∃ (a0 : List Label) (a1 : Label) (a2 : Label) (r : Bool), ds = [sl_Label a0, Label.d a1, Label.d a2] ∧ f65 N a0 a1 a2 = some r ∧ d = bN r
def G65 (ds : List D) (d : D) : Prop := ∃ N : Nat, H65 N ds d
theorem H65.step {N : Nat} {a0 : List Label} {a1 : Label} {a2 : Label} {ρ : Type} {A : Bool → Option ρ} {q : ρ} {ds : List D} {K : D → Prop} (hd : ds = [sl_Label a0, Label.d a1, Label.d a2]) (h : ∀ r, A r = some q → K (bN r)) (hF : (f65 N a0 a1 a2).bind A = some q) : ∃ d, H65 N ds d ∧ K d := by
  obtain ⟨r, hr, hA⟩ := bind_some hF
  exact ⟨_, ⟨a0, a1, a2, r, hd, hr, rfl⟩, h r hA⟩
theorem G65.step {N : Nat} {a0 : List Label} {a1 : Label} {a2 : Label} {ρ : Type} {A : Bool → Option ρ} {q : ρ} {ds : List D} {K : D → Prop} (hd : ds = [sl_Label a0, Label.d a1, Label.d a2]) (h : ∀ r, A r = some q → K (bN r)) (hF : (f65 N a0 a1 a2).bind A = some q) : ∃ d, G65 ds d ∧ K d := by
  obtain ⟨r, hr, hA⟩ := bind_some hF
  exact ⟨_, ⟨N, a0, a1, a2, r, hd, hr, rfl⟩, h r hA⟩
set_option maxRecDepth 20000 in
set_option maxHeartbeats 4000000 in
theorem Q65 (N : Nat) : PureOK Try.prog 65 (H65 N) := by
  induction N with
  | zero =>
    rintro w Z vs ds d h1 h2 h3 ⟨a0, a1, a2, r, h4, h5, h6⟩
    cases h5
  | succ N ih =>
    refine pure_of_vc (c := mkCtx tyTree [(65, true, purePg [[4], [0, 0, 0, 0], [0, 0, 0, 0]] (H65 N)), (64, true, purePg [[0, 0, 0, 0], [0, 0]] G64), (62, true, purePg [[4], [0, 0, 0, 0]] G62), (46, true, purePg [[4], [0, 0, 0, 0]] G46)]) rfl tyOK (ctx_cons (callable Try.func65 rfl rfl) ih (ctx_cons (callable Try.func64 rfl rfl) P64 (ctx_cons (callable Try.func62 rfl rfl) P62 (ctx_cons (callable Try.func46 rfl rfl) P46 (ctx_nil))))) [[0]] 3 Try.func65 rfl rfl (by decide) (by kernel_rfl) ?_
    rintro ds d ⟨a0, a1, a2, r, rfl, hF, rfl⟩ hok
    clear hok
    refine ⟨rfl, ?_⟩
    show vc _ _ _ _ ⟨[(0, .dat (sl_Label a0)), (1, .dat (Label.d a1)), (2, .dat (Label.d a2))], []⟩ _
    have hF : f65b (f65 N) N a0 a1 a2 = some r := hF
    unfold f65b at hF
    repeat' (first
      | ((with_reducible refine q0 _ _ ?_); clear Q q0 q1 q2)
      | ((with_reducible refine q1 _ _ _ _ ?_); clear Q q0 q1 q2)
      | ((with_reducible refine q2 _ _ _ ?_); clear Q q0 q1 q2)
      | ((with_reducible refine seq_op ?hx (fun Q q0 q1 q2 => ?_)); (case hx => exact rfl); conv => whnf)
      | ((with_reducible refine draw_op ?hx (fun Q q0 q1 q2 => ?_)); (case hx => exact rfl); conv => whnf)
      | ((with_reducible refine seq_op0 ?hx (fun Q q0 q1 q2 => ?_)); (case hx => exact rfl); conv => whnf)
      | ((with_reducible refine draw_op0 ?hx (fun Q q0 q1 q2 => ?_)); (case hx => exact rfl); conv => whnf)
      | ((with_reducible refine seq_off ?hx ?_); (case hx => exact rfl))
      | ((with_reducible refine seq_off0 ?hx ?_); (case hx => exact rfl))
      | ((with_reducible refine draw_off ?hx ?_); (case hx => exact rfl))
      | ((with_reducible refine draw_off0 ?hx ?_); (case hx => exact rfl))
      | ((with_reducible refine seq_id ?_); (first | ((refine seq_opK rfl ?hy (fun Q q0 q1 q2 => ?_)); (case hy => first | assumption | exact notT (by assumption) | exact rfl); conv => whnf) | ((refine seq_offK rfl ?hy ?_); (case hy => first | assumption | exact notF (by assumption) | exact rfl)) | ((refine seq_opK0 rfl ?hy (fun Q q0 q1 q2 => ?_)); (case hy => first | assumption | exact notT (by assumption) | exact rfl); conv => whnf) | ((refine seq_offK0 rfl ?hy ?_); (case hy => first | assumption | exact notF (by assumption) | exact rfl)) | (revert hF; (with_reducible refine seq_opF ?hx ?_ ?_); (case hx => exact rfl); (intro hc hF Q q0 q1 q2; conv => whnf); rotate_left; (intro hc hF); rotate_right) | (revert hF; (with_reducible refine seq_opN ?hx ?_ ?_); (case hx => exact rfl); (intro hc hF); rotate_left; (intro hc hF Q q0 q1 q2; conv => whnf); rotate_right) | (revert hF; (with_reducible refine seq_opF0 ?hx ?_ ?_); (case hx => exact rfl); (intro hc hF Q q0 q1 q2; conv => whnf); rotate_left; (intro hc hF); rotate_right) | (revert hF; (with_reducible refine seq_opN0 ?hx ?_ ?_); (case hx => exact rfl); (intro hc hF); rotate_left; (intro hc hF Q q0 q1 q2; conv => whnf); rotate_right)))
      | ((with_reducible refine draw_id ?_); (first | ((refine draw_opK rfl ?hy (fun Q q0 q1 q2 => ?_)); (case hy => first | assumption | exact notT (by assumption) | exact rfl); conv => whnf) | ((refine draw_offK rfl ?hy ?_); (case hy => first | assumption | exact notF (by assumption) | exact rfl)) | ((refine draw_opK0 rfl ?hy (fun Q q0 q1 q2 => ?_)); (case hy => first | assumption | exact notT (by assumption) | exact rfl); conv => whnf) | ((refine draw_offK0 rfl ?hy ?_); (case hy => first | assumption | exact notF (by assumption) | exact rfl)) | (revert hF; (with_reducible refine draw_opF ?hx ?_ ?_); (case hx => exact rfl); (intro hc hF Q q0 q1 q2; conv => whnf); rotate_left; (intro hc hF); rotate_right) | (revert hF; (with_reducible refine draw_opN ?hx ?_ ?_); (case hx => exact rfl); (intro hc hF); rotate_left; (intro hc hF Q q0 q1 q2; conv => whnf); rotate_right) | (revert hF; (with_reducible refine draw_opF0 ?hx ?_ ?_); (case hx => exact rfl); (intro hc hF Q q0 q1 q2; conv => whnf); rotate_left; (intro hc hF); rotate_right) | (revert hF; (with_reducible refine draw_opN0 ?hx ?_ ?_); (case hx => exact rfl); (intro hc hF); rotate_left; (intro hc hF Q q0 q1 q2; conv => whnf); rotate_right)))
      | ((with_reducible refine cond_id ?_); (first | ((refine condKT rfl ?hy ?_); (case hy => first | assumption | exact notT (by assumption) | exact rfl)) | ((refine condKF rfl ?hy ?_); (case hy => first | assumption | exact notF (by assumption) | exact rfl)) | (revert hF; (with_reducible refine condF ?hx ?_ ?_); (case hx => exact rfl); all_goals (intro hc hF))))
      | ((with_reducible refine seq_nil ?_); (first | ((with_reducible refine hR _ ?_); clear R hR) | ((with_reducible refine hL _ ?_); clear L hL)))
      | ((with_reducible refine draw_nil ?_); (with_reducible refine hR _ _ ?hx ?_); (case hx => kernel_rfl); (first | clear R hR | clear hR))
      | ((with_reducible refine int_step ?_); conv => whnf)
      | ((with_reducible refine len_step ?_); conv => whnf)
      | ((with_reducible refine idx2 (by assumption) ?_); conv => whnf)
      | ((with_reducible refine idx3 (by assumption) ?_); conv => whnf)
      | with_reducible refine vc_block ?_
      | with_reducible refine vc_skip ?_
      | with_reducible refine vc_ret ?_
      | with_reducible refine vc_exit ?_
      | ((with_reducible refine vc_seqN [10] ?hx ?_); (case hx => exact rfl))
      | (with_reducible refine vc_region (fun R hR => ?_))
      | ((with_reducible refine vc_draw ?hx (fun R hR => ?_)); (case hx => exact rfl))
      | fail
      | (revert hF; (refine Cf65_c10 rfl rfl ?_ ?_); (intro hF); rotate_left; (intro _ hF; unfold f65_c10 at hF); rotate_right)
      | exact Zf65_c10 hF rfl rfl rfl rfl
      | (revert hF; (refine Lf65_5 rfl rfl rfl rfl rfl ?_); intro n i8 hF; unfold f65_5b at hF)
      | exact Mf65_5 hF rfl rfl rfl rfl
      | (revert hF; (with_reducible refine G46.step ?hx ?_); (case hx => exact rfl); intro v hF; conv => whnf)
      | (revert hF; (with_reducible refine G62.step ?hx ?_); (case hx => exact rfl); intro v hF; conv => whnf)
      | (revert hF; (with_reducible refine G64.step ?hx ?_); (case hx => exact rfl); intro v hF; conv => whnf)
      | (revert hF; (with_reducible refine H65.step ?hx ?_); (case hx => exact rfl); intro v hF; conv => whnf)
      | with_reducible refine k_seq_ret ?_
      | with_reducible refine k_seq_exit ?_
      | with_reducible refine k_blk ?_
      | with_reducible refine k_blk_ret ?_
      | with_reducible refine k_blk_here ?_
      | ((with_reducible refine k_blk_out ?hx ?_); (case hx => exact rfl))
      | with_reducible refine k_loop_ret ?_
      | with_reducible refine k_loop_exit ?_
      | (revert hF; (with_reducible refine idx1 ?hn ?_); (case hn => first | exact rfl | exact (List.length_map _) | assumption | omega | simp); intro x hx hF; conv => whnf)
      | ((with_reducible have hG := sub_fact hF); clear hF; (first | (refine sub_step hG (fun q hF => ?_)) | (refine subrow_step hG ?hn (fun q hF => ?_); (case hn => first | exact rfl | assumption | omega))); clear hG; conv => whnf)
      | ((with_reducible have hG := app_fact hF); clear hF; (first | ((refine app_row hG ?hn ?hs (fun q hF => ?_)); (case hn => first | exact rfl | assumption | omega); (case hs => exact rfl)) ); clear hG; conv => whnf)
      | ((refine row_all ?hn ?_); (case hn => first | exact rfl | (simp; done) | (simp; omega)); conv => whnf)
      | ((with_reducible refine le_step ?hn ?_); (case hn => first | exact rfl | assumption | omega); conv => whnf)
      | ((with_reducible have hG := setx_fact hF); clear hF; (refine setx_step hG ?hs (fun q hl hF => ?_)); (case hs => exact rfl); clear hG; conv => whnf)
      | (revert hF; (with_reducible refine dem_step ?_ ?_); (intro hl hF; conv => whnf); rotate_left; (intro hF; conv => whnf); rotate_right)
      | ((refine ⟨?hx, ?_⟩); (case hx => exact ⟨rfl, Nat.le_of_ble_eq_true rfl, rfl⟩); conv => whnf)
      | ((with_reducible refine ex_step ?_); conv => whnf)
      | ((with_reducible have hG := chk_fact hF); clear hF; (refine ⟨?hx, ?_⟩); (case hx => (first | exact of_decide_eq_true hG.1 | exact hG.1)); have hF := hG.2; clear hG; conv => whnf)
      | ((with_reducible refine both_T ?hx ?_); (case hx => first | exact rfl | assumption | exact notT (by assumption)); conv => whnf)
      | ((with_reducible refine both_F ?hx ?_); (case hx => first | exact rfl | assumption | exact notF (by assumption)); conv => whnf)
      | (revert hF; (with_reducible refine ite_step ?_ ?_) <;> (intro hc hF; conv => whnf))
      | ((with_reducible refine vc_condT ?hx ?_); (case hx => exact rfl))
      | ((with_reducible refine vc_condF ?hx ?_); (case hx => exact rfl))
      | (show retD _ _ _ _ _ _; conv => whnf)
      | ((refine inl_step ?ha ?hb ?hc rfl ?_); (case ha => exact rfl); (case hb => omega); (case hc => exact Nat.le_of_ble_eq_true rfl))
      | (show Kinl _ _ _ _ _ _ _; conv => whnf)
      | ((with_reducible refine kinl_step ?ha ?hb ?_); (case ha => exact rfl); (case hb => exact rfl); conv => whnf)
      | ((refine ⟨?hx, trivial⟩); (case hx => (cases hF; exact rfl)))
      | ((refine ⟨?hx, ?_⟩); (case hx => decide); conv => whnf)
      | ((with_reducible refine k_seq ?_))
      | (have hF : (none : Option _) = some _ := hF; cases hF))
theorem P65 : PureOK Try.prog 65 G65 := PureOK.ex Q65
end Go.Vc
namespace Go.Vc
open Go.Proofs
set_option linter.unusedVariables false
set_option linter.unnecessarySimpa false
set_option linter.unusedSimpArgs false
/- f28: tusche/tuscheref06.Stops -/
def f28 (N : Nat) (a0 : Layout) (a1 : Label) : Option (Bool) :=
 (f62 N a0.Labels a1).bind fun x1 =>
 bif decide ((1 : Int) < (List.length x1 : Int)) then ((f46 N x1 a1).bind fun x2 =>
 bif decide ((List.length x2 : Int) = (0 : Int)) then ((f47 N a0).bind fun x3 =>
 (f65 N a0.Labels x3 a1).bind fun x4 =>
 some (x4))
 else (some (false)))
 else (some (false))
def G28 (ds : List D) (d : D) : Prop := ∃ (N : Nat) (a0 : Layout) (a1 : Label) (r : Bool), ds = [Layout.d a0, Label.d a1] ∧ f28 N a0 a1 = some r ∧ d = bN r
theorem G28.step {N : Nat} {a0 : Layout} {a1 : Label} {ρ : Type} {A : Bool → Option ρ} {q : ρ} {ds : List D} {K : D → Prop} (hd : ds = [Layout.d a0, Label.d a1]) (h : ∀ r, A r = some q → K (bN r)) (hF : (f28 N a0 a1).bind A = some q) : ∃ d, G28 ds d ∧ K d := by
  obtain ⟨r, hr, hA⟩ := bind_some hF
  exact ⟨_, ⟨N, a0, a1, r, hd, hr, rfl⟩, h r hA⟩
set_option maxRecDepth 20000 in
set_option maxHeartbeats 4000000 in
theorem P28 : PureOK Try.prog 28 G28 := by
  refine pure_of_vc (c := mkCtx tyTree [(65, true, purePg [[4], [0, 0, 0, 0], [0, 0, 0, 0]] G65), (62, true, purePg [[4], [0, 0, 0, 0]] G62), (47, true, purePg [[0, 0, 4]] G47), (46, true, purePg [[4], [0, 0, 0, 0]] G46)]) rfl tyOK (ctx_cons (callable Try.func65 rfl rfl) P65 (ctx_cons (callable Try.func62 rfl rfl) P62 (ctx_cons (callable Try.func47 rfl rfl) P47 (ctx_cons (callable Try.func46 rfl rfl) P46 (ctx_nil))))) [[0]] 2 Try.func28 rfl rfl (by decide) (by kernel_rfl) ?_
  rintro ds d ⟨N, a0, a1, r, rfl, hF, rfl⟩ hok
  clear hok
  refine ⟨rfl, ?_⟩
  show vc _ _ _ _ ⟨[(0, .dat (Layout.d a0)), (1, .dat (Label.d a1))], []⟩ _
  unfold f28 at hF
  repeat' (first
    | ((with_reducible refine q0 _ _ ?_); clear Q q0 q1 q2)
    | ((with_reducible refine q1 _ _ _ _ ?_); clear Q q0 q1 q2)
    | ((with_reducible refine q2 _ _ _ ?_); clear Q q0 q1 q2)
    | ((with_reducible refine seq_op ?hx (fun Q q0 q1 q2 => ?_)); (case hx => exact rfl); conv => whnf)
    | ((with_reducible refine draw_op ?hx (fun Q q0 q1 q2 => ?_)); (case hx => exact rfl); conv => whnf)
    | ((with_reducible refine seq_op0 ?hx (fun Q q0 q1 q2 => ?_)); (case hx => exact rfl); conv => whnf)
    | ((with_reducible refine draw_op0 ?hx (fun Q q0 q1 q2 => ?_)); (case hx => exact rfl); conv => whnf)
    | ((with_reducible refine seq_off ?hx ?_); (case hx => exact rfl))
    | ((with_reducible refine seq_off0 ?hx ?_); (case hx => exact rfl))
    | ((with_reducible refine draw_off ?hx ?_); (case hx => exact rfl))
    | ((with_reducible refine draw_off0 ?hx ?_); (case hx => exact rfl))
    | ((with_reducible refine seq_id ?_); (first | ((refine seq_opK rfl ?hy (fun Q q0 q1 q2 => ?_)); (case hy => first | assumption | exact notT (by assumption) | exact rfl); conv => whnf) | ((refine seq_offK rfl ?hy ?_); (case hy => first | assumption | exact notF (by assumption) | exact rfl)) | ((refine seq_opK0 rfl ?hy (fun Q q0 q1 q2 => ?_)); (case hy => first | assumption | exact notT (by assumption) | exact rfl); conv => whnf) | ((refine seq_offK0 rfl ?hy ?_); (case hy => first | assumption | exact notF (by assumption) | exact rfl)) | (revert hF; (with_reducible refine seq_opF ?hx ?_ ?_); (case hx => exact rfl); (intro hc hF Q q0 q1 q2; conv => whnf); rotate_left; (intro hc hF); rotate_right) | (revert hF; (with_reducible refine seq_opN ?hx ?_ ?_); (case hx => exact rfl); (intro hc hF); rotate_left; (intro hc hF Q q0 q1 q2; conv => whnf); rotate_right) | (revert hF; (with_reducible refine seq_opF0 ?hx ?_ ?_); (case hx => exact rfl); (intro hc hF Q q0 q1 q2; conv => whnf); rotate_left; (intro hc hF); rotate_right) | (revert hF; (with_reducible refine seq_opN0 ?hx ?_ ?_); (case hx => exact rfl); (intro hc hF); rotate_left; (intro hc hF Q q0 q1 q2; conv => whnf); rotate_right)))
    | ((with_reducible refine draw_id ?_); (first | ((refine draw_opK rfl ?hy (fun Q q0 q1 q2 => ?_)); (case hy => first | assumption | exact notT (by assumption) | exact rfl); conv => whnf) | ((refine draw_offK rfl ?hy ?_); (case hy => first | assumption | exact notF (by assumption) | exact rfl)) | ((refine draw_opK0 rfl ?hy (fun Q q0 q1 q2 => ?_)); (case hy => first | assumption | exact notT (by assumption) | exact rfl); conv => whnf) | ((refine draw_offK0 rfl ?hy ?_); (case hy => first | assumption | exact notF (by assumption) | exact rfl)) | (revert hF; (with_reducible refine draw_opF ?hx ?_ ?_); (case hx => exact rfl); (intro hc hF Q q0 q1 q2; conv => whnf); rotate_left; (intro hc hF); rotate_right) | (revert hF; (with_reducible refine draw_opN ?hx ?_ ?_); (case hx => exact rfl); (intro hc hF); rotate_left; (intro hc hF Q q0 q1 q2; conv => whnf); rotate_right) | (revert hF; (with_reducible refine draw_opF0 ?hx ?_ ?_); (case hx => exact rfl); (intro hc hF Q q0 q1 q2; conv => whnf); rotate_left; (intro hc hF); rotate_right) | (revert hF; (with_reducible refine draw_opN0 ?hx ?_ ?_); (case hx => exact rfl); (intro hc hF); rotate_left; (intro hc hF Q q0 q1 q2; conv => whnf); rotate_right)))
    | ((with_reducible refine cond_id ?_); (first | ((refine condKT rfl ?hy ?_); (case hy => first | assumption | exact notT (by assumption) | exact rfl)) | ((refine condKF rfl ?hy ?_); (case hy => first | assumption | exact notF (by assumption) | exact rfl)) | (revert hF; (with_reducible refine condF ?hx ?_ ?_); (case hx => exact rfl); all_goals (intro hc hF))))
    | ((with_reducible refine seq_nil ?_); (first | ((with_reducible refine hR _ ?_); clear R hR) | ((with_reducible refine hL _ ?_); clear L hL)))
    | ((with_reducible refine draw_nil ?_); (with_reducible refine hR _ _ ?hx ?_); (case hx => kernel_rfl); (first | clear R hR | clear hR))
    | ((with_reducible refine int_step ?_); conv => whnf)
    | ((with_reducible refine len_step ?_); conv => whnf)
    | ((with_reducible refine idx2 (by assumption) ?_); conv => whnf)
    | ((with_reducible refine idx3 (by assumption) ?_); conv => whnf)
    | with_reducible refine vc_block ?_
    | with_reducible refine vc_skip ?_
    | with_reducible refine vc_ret ?_
    | with_reducible refine vc_exit ?_
    | ((with_reducible refine vc_seqN [] ?hx ?_); (case hx => exact rfl))
    | (with_reducible refine vc_region (fun R hR => ?_))
    | ((with_reducible refine vc_draw ?hx (fun R hR => ?_)); (case hx => exact rfl))
    | fail
    | (revert hF; (with_reducible refine G46.step ?hx ?_); (case hx => exact rfl); intro v hF; conv => whnf)
    | (revert hF; (with_reducible refine G47.step ?hx ?_); (case hx => exact rfl); intro v hF; conv => whnf)
    | (revert hF; (with_reducible refine G62.step ?hx ?_); (case hx => exact rfl); intro v hF; conv => whnf)
    | (revert hF; (with_reducible refine G65.step ?hx ?_); (case hx => exact rfl); intro v hF; conv => whnf)
    | with_reducible refine k_seq_ret ?_
    | with_reducible refine k_seq_exit ?_
    | with_reducible refine k_blk ?_
    | with_reducible refine k_blk_ret ?_
    | with_reducible refine k_blk_here ?_
    | ((with_reducible refine k_blk_out ?hx ?_); (case hx => exact rfl))
    | with_reducible refine k_loop_ret ?_
    | with_reducible refine k_loop_exit ?_
    | (revert hF; (with_reducible refine idx1 ?hn ?_); (case hn => first | exact rfl | exact (List.length_map _) | assumption | omega | simp); intro x hx hF; conv => whnf)
    | ((with_reducible have hG := sub_fact hF); clear hF; (first | (refine sub_step hG (fun q hF => ?_)) | (refine subrow_step hG ?hn (fun q hF => ?_); (case hn => first | exact rfl | assumption | omega))); clear hG; conv => whnf)
    | ((with_reducible have hG := app_fact hF); clear hF; (first | ((refine app_row hG ?hn ?hs (fun q hF => ?_)); (case hn => first | exact rfl | assumption | omega); (case hs => exact rfl)) ); clear hG; conv => whnf)
    | ((refine row_all ?hn ?_); (case hn => first | exact rfl | (simp; done) | (simp; omega)); conv => whnf)
    | ((with_reducible refine le_step ?hn ?_); (case hn => first | exact rfl | assumption | omega); conv => whnf)
    | ((with_reducible have hG := setx_fact hF); clear hF; (refine setx_step hG ?hs (fun q hl hF => ?_)); (case hs => exact rfl); clear hG; conv => whnf)
    | (revert hF; (with_reducible refine dem_step ?_ ?_); (intro hl hF; conv => whnf); rotate_left; (intro hF; conv => whnf); rotate_right)
    | ((refine ⟨?hx, ?_⟩); (case hx => exact ⟨rfl, Nat.le_of_ble_eq_true rfl, rfl⟩); conv => whnf)
    | ((with_reducible refine ex_step ?_); conv => whnf)
    | ((with_reducible have hG := chk_fact hF); clear hF; (refine ⟨?hx, ?_⟩); (case hx => (first | exact of_decide_eq_true hG.1 | exact hG.1)); have hF := hG.2; clear hG; conv => whnf)
    | ((with_reducible refine both_T ?hx ?_); (case hx => first | exact rfl | assumption | exact notT (by assumption)); conv => whnf)
    | ((with_reducible refine both_F ?hx ?_); (case hx => first | exact rfl | assumption | exact notF (by assumption)); conv => whnf)
    | (revert hF; (with_reducible refine ite_step ?_ ?_) <;> (intro hc hF; conv => whnf))
    | ((with_reducible refine vc_condT ?hx ?_); (case hx => exact rfl))
    | ((with_reducible refine vc_condF ?hx ?_); (case hx => exact rfl))
    | (show retD _ _ _ _ _ _; conv => whnf)
    | ((refine inl_step ?ha ?hb ?hc rfl ?_); (case ha => exact rfl); (case hb => omega); (case hc => exact Nat.le_of_ble_eq_true rfl))
    | (show Kinl _ _ _ _ _ _ _; conv => whnf)
    | ((with_reducible refine kinl_step ?ha ?hb ?_); (case ha => exact rfl); (case hb => exact rfl); conv => whnf)
    | ((refine ⟨?hx, trivial⟩); (case hx => (cases hF; exact rfl)))
    | ((refine ⟨?hx, ?_⟩); (case hx => decide); conv => whnf)
    | ((with_reducible refine k_seq ?_))
    | (have hF : (none : Option _) = some _ := hF; cases hF))
end Go.Vc
namespace Go.Vc
open Go.Proofs
set_option linter.unusedVariables false
set_option linter.unnecessarySimpa false
set_option linter.unusedSimpArgs false
/- f4: tusche/tuschelaw06.CutPlans -/
def f4 (N : Nat) (a0 : Layout) (a1 : List Cut) : Option (Bool) :=
 bif decide ((30 : Int) < (List.length a0.Labels : Int)) then ((f13 N ).bind fun x1 =>
 some (x1))
 else (bif decide ((30 : Int) < (List.length a1 : Int)) then ((f13 N ).bind fun x2 =>
 some (x2))
 else ((f14 N a0).bind fun x3 =>
 (f22 N a0).bind fun x4 =>
 (f23 N x3).bind fun x5 =>
 (f24 N a0).bind fun x6 =>
 bif decide (¬ x4.2 = x5) then (some (false))
 else ((f25 N a0 a1).bind fun x7 =>
 (f27 N a1).bind fun x8 =>
 (f26 N x3 x8).bind fun x9 =>
 bif decide (¬ x7 = x9) then (some (false))
 else (bif decide (x5 = (0 : Int)) then (bif decide (x6.2 = (14 : Int)) then (bif (decide (x6.1.X = (0 : Int)) && (decide (x6.1.Y = (0 : Int)) && (decide (x6.1.W = (0 : Int)) && (decide (x6.1.H = (0 : Int)) && true)))) then ((f27 N x4.1).bind fun x10 =>
 (f26 N x3 x10).bind fun x11 =>
 bif decide (x11 = (0 : Int)) then ((f13 N ).bind fun x12 =>
 some (x12))
 else (some (false)))
 else (some (false)))
 else (some (false)))
 else (bif decide ((0 : Int) < (List.length x4.1 : Int)) then (some (false))
 else (bif decide (x5 = (14 : Int)) then (bif decide (x6.2 = (0 : Int)) then ((f28 N x3 x6.1).bind fun x13 =>
 bif x13 then ((f13 N ).bind fun x14 =>
 some (x14))
 else (some (false)))
 else (some (false)))
 else (bif decide (x6.2 = x5) then (bif (decide (x6.1.X = (0 : Int)) && (decide (x6.1.Y = (0 : Int)) && (decide (x6.1.W = (0 : Int)) && (decide (x6.1.H = (0 : Int)) && true)))) then ((f13 N ).bind fun x15 =>
 some (x15))
 else (some (false)))
 else (some (false)))))))))
def G4 (ds : List D) (d : D) : Prop := ∃ (N : Nat) (a0 : Layout) (a1 : List Cut) (r : Bool), ds = [Layout.d a0, sl_Cut a1] ∧ f4 N a0 a1 = some r ∧ d = bN r
theorem G4.step {N : Nat} {a0 : Layout} {a1 : List Cut} {ρ : Type} {A : Bool → Option ρ} {q : ρ} {ds : List D} {K : D → Prop} (hd : ds = [Layout.d a0, sl_Cut a1]) (h : ∀ r, A r = some q → K (bN r)) (hF : (f4 N a0 a1).bind A = some q) : ∃ d, G4 ds d ∧ K d := by
  obtain ⟨r, hr, hA⟩ := bind_some hF
  exact ⟨_, ⟨N, a0, a1, r, hd, hr, rfl⟩, h r hA⟩
set_option maxRecDepth 20000 in
set_option maxHeartbeats 4000000 in
theorem P4 : PureOK Try.prog 4 G4 := by
  refine pure_of_vc (c := mkCtx tyTree [(28, true, purePg [[0, 0, 4], [0, 0, 0, 0]] G28), (27, true, purePg [[2]] G27), (26, true, purePg [[0, 0, 4], [2]] G26), (25, true, purePg [[0, 0, 4], [2]] G25), (24, true, purePg [[0, 0, 4]] G24), (23, true, purePg [[0, 0, 4]] G23), (22, true, purePg [[0, 0, 4]] G22), (14, true, purePg [[0, 0, 4]] G14), (13, true, purePg [] G13)]) rfl tyOK (ctx_cons (callable Try.func28 rfl rfl) P28 (ctx_cons (callable Try.func27 rfl rfl) P27 (ctx_cons (callable Try.func26 rfl rfl) P26 (ctx_cons (callable Try.func25 rfl rfl) P25 (ctx_cons (callable Try.func24 rfl rfl) P24 (ctx_cons (callable Try.func23 rfl rfl) P23 (ctx_cons (callable Try.func22 rfl rfl) P22 (ctx_cons (callable Try.func14 rfl rfl) P14 (ctx_cons (callable Try.func13 rfl rfl) P13 (ctx_nil)))))))))) [[0]] 2 Try.func4 rfl rfl (by decide) (by kernel_rfl) ?_
  rintro ds d ⟨N, a0, a1, r, rfl, hF, rfl⟩ hok
  clear hok
  refine ⟨rfl, ?_⟩
  show vc _ _ _ _ ⟨[(0, .dat (Layout.d a0)), (1, .dat (sl_Cut a1))], []⟩ _
  unfold f4 at hF
  repeat' (first
    | ((with_reducible refine q0 _ _ ?_); clear Q q0 q1 q2)
    | ((with_reducible refine q1 _ _ _ _ ?_); clear Q q0 q1 q2)
    | ((with_reducible refine q2 _ _ _ ?_); clear Q q0 q1 q2)
    | ((with_reducible refine seq_op ?hx (fun Q q0 q1 q2 => ?_)); (case hx => exact rfl); conv => whnf)
    | ((with_reducible refine draw_op ?hx (fun Q q0 q1 q2 => ?_)); (case hx => exact rfl); conv => whnf)
    | ((with_reducible refine seq_op0 ?hx (fun Q q0 q1 q2 => ?_)); (case hx => exact rfl); conv => whnf)
    | ((with_reducible refine draw_op0 ?hx (fun Q q0 q1 q2 => ?_)); (case hx => exact rfl); conv => whnf)
    | ((with_reducible refine seq_off ?hx ?_); (case hx => exact rfl))
    | ((with_reducible refine seq_off0 ?hx ?_); (case hx => exact rfl))
    | ((with_reducible refine draw_off ?hx ?_); (case hx => exact rfl))
    | ((with_reducible refine draw_off0 ?hx ?_); (case hx => exact rfl))
    | ((with_reducible refine seq_id ?_); (first | ((refine seq_opK rfl ?hy (fun Q q0 q1 q2 => ?_)); (case hy => first | assumption | exact notT (by assumption) | exact rfl); conv => whnf) | ((refine seq_offK rfl ?hy ?_); (case hy => first | assumption | exact notF (by assumption) | exact rfl)) | ((refine seq_opK0 rfl ?hy (fun Q q0 q1 q2 => ?_)); (case hy => first | assumption | exact notT (by assumption) | exact rfl); conv => whnf) | ((refine seq_offK0 rfl ?hy ?_); (case hy => first | assumption | exact notF (by assumption) | exact rfl)) | (revert hF; (with_reducible refine seq_opF ?hx ?_ ?_); (case hx => exact rfl); (intro hc hF Q q0 q1 q2; conv => whnf); rotate_left; (intro hc hF); rotate_right) | (revert hF; (with_reducible refine seq_opN ?hx ?_ ?_); (case hx => exact rfl); (intro hc hF); rotate_left; (intro hc hF Q q0 q1 q2; conv => whnf); rotate_right) | (revert hF; (with_reducible refine seq_opF0 ?hx ?_ ?_); (case hx => exact rfl); (intro hc hF Q q0 q1 q2; conv => whnf); rotate_left; (intro hc hF); rotate_right) | (revert hF; (with_reducible refine seq_opN0 ?hx ?_ ?_); (case hx => exact rfl); (intro hc hF); rotate_left; (intro hc hF Q q0 q1 q2; conv => whnf); rotate_right)))
    | ((with_reducible refine draw_id ?_); (first | ((refine draw_opK rfl ?hy (fun Q q0 q1 q2 => ?_)); (case hy => first | assumption | exact notT (by assumption) | exact rfl); conv => whnf) | ((refine draw_offK rfl ?hy ?_); (case hy => first | assumption | exact notF (by assumption) | exact rfl)) | ((refine draw_opK0 rfl ?hy (fun Q q0 q1 q2 => ?_)); (case hy => first | assumption | exact notT (by assumption) | exact rfl); conv => whnf) | ((refine draw_offK0 rfl ?hy ?_); (case hy => first | assumption | exact notF (by assumption) | exact rfl)) | (revert hF; (with_reducible refine draw_opF ?hx ?_ ?_); (case hx => exact rfl); (intro hc hF Q q0 q1 q2; conv => whnf); rotate_left; (intro hc hF); rotate_right) | (revert hF; (with_reducible refine draw_opN ?hx ?_ ?_); (case hx => exact rfl); (intro hc hF); rotate_left; (intro hc hF Q q0 q1 q2; conv => whnf); rotate_right) | (revert hF; (with_reducible refine draw_opF0 ?hx ?_ ?_); (case hx => exact rfl); (intro hc hF Q q0 q1 q2; conv => whnf); rotate_left; (intro hc hF); rotate_right) | (revert hF; (with_reducible refine draw_opN0 ?hx ?_ ?_); (case hx => exact rfl); (intro hc hF); rotate_left; (intro hc hF Q q0 q1 q2; conv => whnf); rotate_right)))
    | ((with_reducible refine cond_id ?_); (first | ((refine condKT rfl ?hy ?_); (case hy => first | assumption | exact notT (by assumption) | exact rfl)) | ((refine condKF rfl ?hy ?_); (case hy => first | assumption | exact notF (by assumption) | exact rfl)) | (revert hF; (with_reducible refine condF ?hx ?_ ?_); (case hx => exact rfl); all_goals (intro hc hF))))
    | ((with_reducible refine seq_nil ?_); (first | ((with_reducible refine hR _ ?_); clear R hR) | ((with_reducible refine hL _ ?_); clear L hL)))
    | ((with_reducible refine draw_nil ?_); (with_reducible refine hR _ _ ?hx ?_); (case hx => kernel_rfl); (first | clear R hR | clear hR))
    | ((with_reducible refine int_step ?_); conv => whnf)
    | ((with_reducible refine len_step ?_); conv => whnf)
    | ((with_reducible refine idx2 (by assumption) ?_); conv => whnf)
    | ((with_reducible refine idx3 (by assumption) ?_); conv => whnf)
    | with_reducible refine vc_block ?_
    | with_reducible refine vc_skip ?_
    | with_reducible refine vc_ret ?_
    | with_reducible refine vc_exit ?_
    | ((with_reducible refine vc_seqN [] ?hx ?_); (case hx => exact rfl))
    | (with_reducible refine vc_region (fun R hR => ?_))
    | ((with_reducible refine vc_draw ?hx (fun R hR => ?_)); (case hx => exact rfl))
    | fail
    | (revert hF; (with_reducible refine G13.step ?hx ?_); (case hx => exact rfl); intro v hF; conv => whnf)
    | (revert hF; (with_reducible refine G14.step ?hx ?_); (case hx => exact rfl); intro v hF; conv => whnf)
    | (revert hF; (with_reducible refine G22.step ?hx ?_); (case hx => exact rfl); intro v hF; conv => whnf)
    | (revert hF; (with_reducible refine G23.step ?hx ?_); (case hx => exact rfl); intro v hF; conv => whnf)
    | (revert hF; (with_reducible refine G24.step ?hx ?_); (case hx => exact rfl); intro v hF; conv => whnf)
    | (revert hF; (with_reducible refine G25.step ?hx ?_); (case hx => exact rfl); intro v hF; conv => whnf)
    | (revert hF; (with_reducible refine G26.step ?hx ?_); (case hx => exact rfl); intro v hF; conv => whnf)
    | (revert hF; (with_reducible refine G27.step ?hx ?_); (case hx => exact rfl); intro v hF; conv => whnf)
    | (revert hF; (with_reducible refine G28.step ?hx ?_); (case hx => exact rfl); intro v hF; conv => whnf)
    | with_reducible refine k_seq_ret ?_
    | with_reducible refine k_seq_exit ?_
    | with_reducible refine k_blk ?_
    | with_reducible refine k_blk_ret ?_
    | with_reducible refine k_blk_here ?_
    | ((with_reducible refine k_blk_out ?hx ?_); (case hx => exact rfl))
    | with_reducible refine k_loop_ret ?_
    | with_reducible refine k_loop_exit ?_
    | (revert hF; (with_reducible refine idx1 ?hn ?_); (case hn => first | exact rfl | exact (List.length_map _) | assumption | omega | simp); intro x hx hF; conv => whnf)
    | ((with_reducible have hG := sub_fact hF); clear hF; (first | (refine sub_step hG (fun q hF => ?_)) | (refine subrow_step hG ?hn (fun q hF => ?_); (case hn => first | exact rfl | assumption | omega))); clear hG; conv => whnf)
    | ((with_reducible have hG := app_fact hF); clear hF; (first | ((refine app_row hG ?hn ?hs (fun q hF => ?_)); (case hn => first | exact rfl | assumption | omega); (case hs => exact rfl)) ); clear hG; conv => whnf)
    | ((refine row_all ?hn ?_); (case hn => first | exact rfl | (simp; done) | (simp; omega)); conv => whnf)
    | ((with_reducible refine le_step ?hn ?_); (case hn => first | exact rfl | assumption | omega); conv => whnf)
    | ((with_reducible have hG := setx_fact hF); clear hF; (refine setx_step hG ?hs (fun q hl hF => ?_)); (case hs => exact rfl); clear hG; conv => whnf)
    | (revert hF; (with_reducible refine dem_step ?_ ?_); (intro hl hF; conv => whnf); rotate_left; (intro hF; conv => whnf); rotate_right)
    | ((refine ⟨?hx, ?_⟩); (case hx => exact ⟨rfl, Nat.le_of_ble_eq_true rfl, rfl⟩); conv => whnf)
    | ((with_reducible refine ex_step ?_); conv => whnf)
    | ((with_reducible have hG := chk_fact hF); clear hF; (refine ⟨?hx, ?_⟩); (case hx => (first | exact of_decide_eq_true hG.1 | exact hG.1)); have hF := hG.2; clear hG; conv => whnf)
    | ((with_reducible refine both_T ?hx ?_); (case hx => first | exact rfl | assumption | exact notT (by assumption)); conv => whnf)
    | ((with_reducible refine both_F ?hx ?_); (case hx => first | exact rfl | assumption | exact notF (by assumption)); conv => whnf)
    | (revert hF; (with_reducible refine ite_step ?_ ?_) <;> (intro hc hF; conv => whnf))
    | ((with_reducible refine vc_condT ?hx ?_); (case hx => exact rfl))
    | ((with_reducible refine vc_condF ?hx ?_); (case hx => exact rfl))
    | (show retD _ _ _ _ _ _; conv => whnf)
    | ((refine inl_step ?ha ?hb ?hc rfl ?_); (case ha => exact rfl); (case hb => omega); (case hc => exact Nat.le_of_ble_eq_true rfl))
    | (show Kinl _ _ _ _ _ _ _; conv => whnf)
    | ((with_reducible refine kinl_step ?ha ?hb ?_); (case ha => exact rfl); (case hb => exact rfl); conv => whnf)
    | ((refine ⟨?hx, trivial⟩); (case hx => (cases hF; exact rfl)))
    | ((refine ⟨?hx, ?_⟩); (case hx => decide); conv => whnf)
    | ((with_reducible refine k_seq ?_))
    | (have hF : (none : Option _) = some _ := hF; cases hF))
end Go.Vc
namespace Go.Vc
open Go.Proofs
set_option linter.unusedVariables false
set_option linter.unnecessarySimpa false
set_option linter.unusedSimpArgs false
/- f19: tusche/tuschelaw06.listed -/
def f19_c6 (out3 : List Kind) : Option ((List Kind)) :=
 some (out3)
def Sf19_c6 : Ann := ⟨[3], [90003], [(.slot 3, 90003, 106, 3)], []⟩
def Vf19_c6 (out3 : List Kind) : List SV := [.rs 90003 (List.length out3)]
def Bf19_c6 (out3 : List Kind) : List Blk := [.row 106 3 (List.map Kind.d out3)]
theorem Cf19_c6 {c : Ctx} {p nid : Nat} {a b : Code} {st : St} {K : Ex → St → Prop} {r : (List Kind)} {g : _ → Option ((List Kind))} (hn : Nat.beq (nid * 1000 + firstRegion b) 6 = true) (hz : Sf19_c6.ok p = true)
    (h : g f19_c6 = some r → vc c p nid a st (Kseq (fun st' => st'.head Sf19_c6 fun v bl => ∃ x, (fun y : (List Kind) => f19_c6  y = some r) x ∧ v = (fun y : (List Kind) => Vf19_c6  y) x ∧ bl = (fun y : (List Kind) => Bf19_c6  y) x) K))
    (h2 : ∀ (out3 : List Kind), f19_c6  out3 = some r → vc c p nid b (St.mk' Sf19_c6 (Vf19_c6  out3) (Bf19_c6  out3)) K) (hF : joinK f19_c6 g = some r) : vc c p nid (.seq a b) st K :=
  vc_cut Sf19_c6 (fun y : (List Kind) => Vf19_c6  y) (fun y : (List Kind) => Bf19_c6  y) (fun y : (List Kind) => f19_c6  y = some r) hz (h hF) fun y hy => h2 y hy
def V2f19_c6 (out3 : List Kind) (m0 : Nat) : List SV := [.rs 90003 m0]
def B2f19_c6 (out3 : List Kind) (m0 : Nat) : List Blk := [.row 106 3 (List.map Kind.d out3)]
theorem Zf19_c6 {K : Ex → St → Prop} {r : (List Kind)} {out3 : List Kind} {m0 : Nat} {st st' : St} (hF : f19_c6  out3 = some r) (h1 : st.norm Sf19_c6 = some st') (h2 : st'.cutOk Sf19_c6.keep Sf19_c6.bs (memB Sf19_c6.bs) = true) (h3 : vals Sf19_c6.keep st'.e = V2f19_c6  out3 m0) (h4 : blks Sf19_c6.bs st'.m = B2f19_c6  out3 m0) (em0 : m0 = List.length out3) :
    Kseq (fun st' => st'.head Sf19_c6 fun v bl => ∃ x, (fun y : (List Kind) => f19_c6  y = some r) x ∧ v = (fun y : (List Kind) => Vf19_c6  y) x ∧ bl = (fun y : (List Kind) => Bf19_c6  y) x) K .normal st := by
  subst em0; exact k_seq (head_in (I := (fun y : (List Kind) => f19_c6  y = some r)) (x := (out3)) hF h1 h2 h3 h4)
def f19_3b (r3 : (List Kind) → Int → Option ((List Kind))) (a0 : List Kind) (k0 : (List Kind) → Option ((List Kind))) (out3 : List Kind) (i4 : Int) : Option ((List Kind)) :=
 bif decide (i4 < (List.length a0 : Int)) then ((ix a0 i4).bind fun x1 =>
 (app 24 out3 [x1]).bind fun x2 =>
 r3 x2 (W (i4 + (1 : Int))))
 else (k0 out3)
def f19_3 (a0 : List Kind) (k0 : (List Kind) → Option ((List Kind))) : Nat → (List Kind) → Int → Option ((List Kind))
  | 0, _, _ => none
  | n + 1, out3, i4 => f19_3b (f19_3 a0 k0 n) a0 k0 out3 i4
def Sf19_3 : Ann := ⟨[0, 3, 4], [90003], [(.slot 3, 90003, 106, 3)], []⟩
def Vf19_3 (a0 : List Kind) (out3 : List Kind) (i4 : Int) : List SV := [.dat (sl_Kind a0), .rs 90003 (List.length out3), .dat (iN i4)]
def Bf19_3 (a0 : List Kind) (out3 : List Kind) (i4 : Int) : List Blk := [.row 106 3 (List.map Kind.d out3)]
def V2f19_3 (a0 : List Kind) (out3 : List Kind) (i4 : Int) (m0 : Nat) : List SV := [.dat (sl_Kind a0), .rs 90003 m0, .dat (iN i4)]
def B2f19_3 (a0 : List Kind) (out3 : List Kind) (i4 : Int) (m0 : Nat) : List Blk := [.row 106 3 (List.map Kind.d out3)]
theorem Lf19_3 {c : Ctx} {p nid : Nat} {a : Code} {K : Ex → St → Prop} {r : (List Kind)} {a0 : List Kind} {k0 : (List Kind) → Option ((List Kind))} {fu : Nat} {out3 : List Kind} {i4 : Int} {m0 : Nat} {st st' : St} (hz : Sf19_3.ok p = true) (h1 : st.norm Sf19_3 = some st') (h2 : st'.cutOk Sf19_3.keep Sf19_3.bs (memB Sf19_3.bs) = true) (h3 : vals Sf19_3.keep st'.e = V2f19_3 a0 out3 i4 m0) (h4 : blks Sf19_3.bs st'.m = B2f19_3 a0 out3 i4 m0) (em0 : m0 = List.length out3)
    (h : ∀ (n : Nat) (out3 : List Kind) (i4 : Int), f19_3b (f19_3 a0 k0 n) a0 k0 out3 i4 = some r → vc c p nid a (St.mk' Sf19_3 (Vf19_3 a0 out3 i4) (Bf19_3 a0 out3 i4)) (Kloop Sf19_3 (fun y : Nat × (List Kind) × Int => Vf19_3 a0 y.2.1 y.2.2) (fun y : Nat × (List Kind) × Int => Bf19_3 a0 y.2.1 y.2.2) (fun y : Nat × (List Kind) × Int => f19_3 a0 k0 y.1 y.2.1 y.2.2 = some r) (fun y : Nat × (List Kind) × Int => y.1) (n + 1, out3, i4) K)) (hF : f19_3 a0 k0 fu out3 i4 = some r) : vc c p nid (.loop a) st K := by
  subst em0; refine vc_loop Sf19_3 (fun y : Nat × (List Kind) × Int => Vf19_3 a0 y.2.1 y.2.2) (fun y : Nat × (List Kind) × Int => Bf19_3 a0 y.2.1 y.2.2) (fun y : Nat × (List Kind) × Int => f19_3 a0 k0 y.1 y.2.1 y.2.2 = some r) (fun y : Nat × (List Kind) × Int => y.1) hz (head_in (x := (fu, out3, i4)) hF h1 h2 h3 h4) ?_
  rintro ⟨_ | n, out3, i4⟩ hI
  · cases hI
  · exact h n out3 i4 hI
theorem Mf19_3 {K : Ex → St → Prop} {r : (List Kind)} {a0 : List Kind} {k0 : (List Kind) → Option ((List Kind))} {n : Nat} {out3 : List Kind} {i4 : Int} {out3_ : List Kind} {i4_ : Int} {m0 : Nat} {st st' : St} (hF : f19_3 a0 k0 n out3 i4 = some r) (h1 : st.norm Sf19_3 = some st') (h2 : st'.cutOk Sf19_3.keep Sf19_3.bs (memB Sf19_3.bs) = true) (h3 : vals Sf19_3.keep st'.e = V2f19_3 a0 out3 i4 m0) (h4 : blks Sf19_3.bs st'.m = B2f19_3 a0 out3 i4 m0) (em0 : m0 = List.length out3) :
    Kloop Sf19_3 (fun y : Nat × (List Kind) × Int => Vf19_3 a0 y.2.1 y.2.2) (fun y : Nat × (List Kind) × Int => Bf19_3 a0 y.2.1 y.2.2) (fun y : Nat × (List Kind) × Int => f19_3 a0 k0 y.1 y.2.1 y.2.2 = some r) (fun y : Nat × (List Kind) × Int => y.1) (n + 1, out3_, i4_) K .normal st := by
  subst em0; exact head_back (y := (n, out3, i4)) hF (Nat.lt_succ_self n) h1 h2 h3 h4
def f19 (N : Nat) (a0 : List Kind) : Option ((List Kind)) :=
 joinK f19_c6 fun k0 =>
 f19_3 a0 k0 N [] (0 : Int)
def G19 (ds : List D) (d : D) : Prop := ∃ (N : Nat) (a0 : List Kind) (r : (List Kind)), ds = [sl_Kind a0] ∧ f19 N a0 = some r ∧ d = sl_Kind r
theorem G19.step {N : Nat} {a0 : List Kind} {ρ : Type} {A : (List Kind) → Option ρ} {q : ρ} {ds : List D} {K : D → Prop} (hd : ds = [sl_Kind a0]) (h : ∀ r, A r = some q → K (sl_Kind r)) (hF : (f19 N a0).bind A = some q) : ∃ d, G19 ds d ∧ K d := by
  obtain ⟨r, hr, hA⟩ := bind_some hF
  exact ⟨_, ⟨N, a0, r, hd, hr, rfl⟩, h r hA⟩
set_option maxRecDepth 20000 in
set_option maxHeartbeats 4000000 in
theorem P19 : PureOK Try.prog 19 G19 := by
  refine pure_of_vc (c := mkCtx tyTree []) rfl tyOK (ctx_nil) [[3]] 1 Try.func19 rfl rfl (by decide) (by kernel_rfl) ?_
  rintro ds d ⟨N, a0, r, rfl, hF, rfl⟩ hok
  clear hok
  refine ⟨rfl, ?_⟩
  show vc _ _ _ _ ⟨[(0, .dat (sl_Kind a0))], []⟩ _
  unfold f19 at hF
  repeat' (first
    | ((with_reducible refine q0 _ _ ?_); clear Q q0 q1 q2)
    | ((with_reducible refine q1 _ _ _ _ ?_); clear Q q0 q1 q2)
    | ((with_reducible refine q2 _ _ _ ?_); clear Q q0 q1 q2)
    | ((with_reducible refine seq_op ?hx (fun Q q0 q1 q2 => ?_)); (case hx => exact rfl); conv => whnf)
    | ((with_reducible refine draw_op ?hx (fun Q q0 q1 q2 => ?_)); (case hx => exact rfl); conv => whnf)
    | ((with_reducible refine seq_op0 ?hx (fun Q q0 q1 q2 => ?_)); (case hx => exact rfl); conv => whnf)
    | ((with_reducible refine draw_op0 ?hx (fun Q q0 q1 q2 => ?_)); (case hx => exact rfl); conv => whnf)
    | ((with_reducible refine seq_off ?hx ?_); (case hx => exact rfl))
    | ((with_reducible refine seq_off0 ?hx ?_); (case hx => exact rfl))
    | ((with_reducible refine draw_off ?hx ?_); (case hx => exact rfl))
    | ((with_reducible refine draw_off0 ?hx ?_); (case hx => exact rfl))
    | ((with_reducible refine seq_id ?_); (first | ((refine seq_opK rfl ?hy (fun Q q0 q1 q2 => ?_)); (case hy => first | assumption | exact notT (by assumption) | exact rfl); conv => whnf) | ((refine seq_offK rfl ?hy ?_); (case hy => first | assumption | exact notF (by assumption) | exact rfl)) | ((refine seq_opK0 rfl ?hy (fun Q q0 q1 q2 => ?_)); (case hy => first | assumption | exact notT (by assumption) | exact rfl); conv => whnf) | ((refine seq_offK0 rfl ?hy ?_); (case hy => first | assumption | exact notF (by assumption) | exact rfl)) | (revert hF; (with_reducible refine seq_opF ?hx ?_ ?_); (case hx => exact rfl); (intro hc hF Q q0 q1 q2; conv => whnf); rotate_left; (intro hc hF); rotate_right) | (revert hF; (with_reducible refine seq_opN ?hx ?_ ?_); (case hx => exact rfl); (intro hc hF); rotate_left; (intro hc hF Q q0 q1 q2; conv => whnf); rotate_right) | (revert hF; (with_reducible refine seq_opF0 ?hx ?_ ?_); (case hx => exact rfl); (intro hc hF Q q0 q1 q2; conv => whnf); rotate_left; (intro hc hF); rotate_right) | (revert hF; (with_reducible refine seq_opN0 ?hx ?_ ?_); (case hx => exact rfl); (intro hc hF); rotate_left; (intro hc hF Q q0 q1 q2; conv => whnf); rotate_right)))
    | ((with_reducible refine draw_id ?_); (first | ((refine draw_opK rfl ?hy (fun Q q0 q1 q2 => ?_)); (case hy => first | assumption | exact notT (by assumption) | exact rfl); conv => whnf) | ((refine draw_offK rfl ?hy ?_); (case hy => first | assumption | exact notF (by assumption) | exact rfl)) | ((refine draw_opK0 rfl ?hy (fun Q q0 q1 q2 => ?_)); (case hy => first | assumption | exact notT (by assumption) | exact rfl); conv => whnf) | ((refine draw_offK0 rfl ?hy ?_); (case hy => first | assumption | exact notF (by assumption) | exact rfl)) | (revert hF; (with_reducible refine draw_opF ?hx ?_ ?_); (case hx => exact rfl); (intro hc hF Q q0 q1 q2; conv => whnf); rotate_left; (intro hc hF); rotate_right) | (revert hF; (with_reducible refine draw_opN ?hx ?_ ?_); (case hx => exact rfl); (intro hc hF); rotate_left; (intro hc hF Q q0 q1 q2; conv => whnf); rotate_right) | (revert hF; (with_reducible refine draw_opF0 ?hx ?_ ?_); (case hx => exact rfl); (intro hc hF Q q0 q1 q2; conv => whnf); rotate_left; (intro hc hF); rotate_right) | (revert hF; (with_reducible refine draw_opN0 ?hx ?_ ?_); (case hx => exact rfl); (intro hc hF); rotate_left; (intro hc hF Q q0 q1 q2; conv => whnf); rotate_right)))
    | ((with_reducible refine cond_id ?_); (first | ((refine condKT rfl ?hy ?_); (case hy => first | assumption | exact notT (by assumption) | exact rfl)) | ((refine condKF rfl ?hy ?_); (case hy => first | assumption | exact notF (by assumption) | exact rfl)) | (revert hF; (with_reducible refine condF ?hx ?_ ?_); (case hx => exact rfl); all_goals (intro hc hF))))
    | ((with_reducible refine seq_nil ?_); (first | ((with_reducible refine hR _ ?_); clear R hR) | ((with_reducible refine hL _ ?_); clear L hL)))
    | ((with_reducible refine draw_nil ?_); (with_reducible refine hR _ _ ?hx ?_); (case hx => kernel_rfl); (first | clear R hR | clear hR))
    | ((with_reducible refine int_step ?_); conv => whnf)
    | ((with_reducible refine len_step ?_); conv => whnf)
    | ((with_reducible refine idx2 (by assumption) ?_); conv => whnf)
    | ((with_reducible refine idx3 (by assumption) ?_); conv => whnf)
    | with_reducible refine vc_block ?_
    | with_reducible refine vc_skip ?_
    | with_reducible refine vc_ret ?_
    | with_reducible refine vc_exit ?_
    | ((with_reducible refine vc_seqN [6] ?hx ?_); (case hx => exact rfl))
    | (with_reducible refine vc_region (fun R hR => ?_))
    | ((with_reducible refine vc_draw ?hx (fun R hR => ?_)); (case hx => exact rfl))
    | fail
    | (revert hF; (refine Cf19_c6 rfl rfl ?_ ?_); (intro hF); rotate_left; (intro out3 hF; unfold f19_c6 at hF); rotate_right)
    | exact Zf19_c6 hF rfl rfl rfl rfl (by first | exact rfl | assumption | omega)
    | (revert hF; (refine Lf19_3 rfl rfl rfl rfl rfl (by first | exact rfl | assumption | omega) ?_); intro n out3 i4 hF; unfold f19_3b at hF)
    | exact Mf19_3 hF rfl rfl rfl rfl (by first | exact rfl | assumption | omega)
    | with_reducible refine k_seq_ret ?_
    | with_reducible refine k_seq_exit ?_
    | with_reducible refine k_blk ?_
    | with_reducible refine k_blk_ret ?_
    | with_reducible refine k_blk_here ?_
    | ((with_reducible refine k_blk_out ?hx ?_); (case hx => exact rfl))
    | with_reducible refine k_loop_ret ?_
    | with_reducible refine k_loop_exit ?_
    | (revert hF; (with_reducible refine idx1 ?hn ?_); (case hn => first | exact rfl | exact (List.length_map _) | assumption | omega | simp); intro x hx hF; conv => whnf)
    | ((with_reducible have hG := sub_fact hF); clear hF; (first | (refine sub_step hG (fun q hF => ?_)) | (refine subrow_step hG ?hn (fun q hF => ?_); (case hn => first | exact rfl | assumption | omega))); clear hG; conv => whnf)
    | ((with_reducible have hG := app_fact hF); clear hF; (first | ((refine app_row hG ?hn ?hs (fun q hF => ?_)); (case hn => first | exact rfl | assumption | omega); (case hs => exact rfl)) | ((refine app_nil (d := Kind.d) hG ?hs (fun q hF => ?_)); (case hs => exact rfl)) | ((refine app_gen (d := Kind.d) hG ?ho ?hn ?hs (fun q hF => ?_)); (case ho => exact rfl); (case hn => exact rfl); (case hs => exact rfl))); clear hG; conv => whnf)
    | ((refine row_all ?hn ?_); (case hn => first | exact rfl | (simp; done) | (simp; omega)); conv => whnf)
    | ((with_reducible refine le_step ?hn ?_); (case hn => first | exact rfl | assumption | omega); conv => whnf)
    | ((with_reducible have hG := setx_fact hF); clear hF; (refine setx_step hG ?hs (fun q hl hF => ?_)); (case hs => exact rfl); clear hG; conv => whnf)
    | (revert hF; (with_reducible refine dem_step ?_ ?_); (intro hl hF; conv => whnf); rotate_left; (intro hF; conv => whnf); rotate_right)
    | ((refine ⟨?hx, ?_⟩); (case hx => exact ⟨rfl, Nat.le_of_ble_eq_true rfl, rfl⟩); conv => whnf)
    | ((with_reducible refine ex_step ?_); conv => whnf)
    | ((with_reducible have hG := chk_fact hF); clear hF; (refine ⟨?hx, ?_⟩); (case hx => (first | exact of_decide_eq_true hG.1 | exact hG.1)); have hF := hG.2; clear hG; conv => whnf)
    | ((with_reducible refine both_T ?hx ?_); (case hx => first | exact rfl | assumption | exact notT (by assumption)); conv => whnf)
    | ((with_reducible refine both_F ?hx ?_); (case hx => first | exact rfl | assumption | exact notF (by assumption)); conv => whnf)
    | (revert hF; (with_reducible refine ite_step ?_ ?_) <;> (intro hc hF; conv => whnf))
    | ((with_reducible refine vc_condT ?hx ?_); (case hx => exact rfl))
    | ((with_reducible refine vc_condF ?hx ?_); (case hx => exact rfl))
    | (show retD _ _ _ _ _ _; conv => whnf)
    | ((refine inl_step ?ha ?hb ?hc rfl ?_); (case ha => exact rfl); (case hb => omega); (case hc => exact Nat.le_of_ble_eq_true rfl))
    | (show Kinl _ _ _ _ _ _ _; conv => whnf)
    | ((with_reducible refine kinl_step ?ha ?hb ?_); (case ha => exact rfl); (case hb => exact rfl); conv => whnf)
    | ((refine ⟨?hx, trivial⟩); (case hx => (cases hF; exact rfl)))
    | ((refine ⟨?hx, ?_⟩); (case hx => decide); conv => whnf)
    | ((with_reducible refine k_seq ?_))
    | (have hF : (none : Option _) = some _ := hF; cases hF))
end Go.Vc
/-
  PLAIN LAWS OF CUT, 1: copies, checks.
-/
namespace Go.Vc
set_option linter.unusedVariables false
set_option linter.unnecessarySimpa false
set_option linter.unusedSimpArgs false
set_option linter.unusedSimpArgs false

theorem f52_eq {N : Nat} {a b c : Int} : f52 N a b c = some (decide (a ≤ b) && decide (b ≤ c)) := by
  unfold f52; cases decide (a ≤ b) <;> rfl
theorem f72_eq {N : Nat} {a b c : Int} : f72 N a b c = some (decide (b ≤ a) && decide (a ≤ c)) := by
  unfold f72; cases decide (b ≤ a) <;> rfl
theorem f56_eq {N : Nat} {a b c : Int} : f56 N a b c = some (decide (b ≤ a) && decide (a ≤ c)) := by
  unfold f56; rw [f72_eq]; rfl
/-- copies -/
theorem foldK_copy {α ρ : Type} {s : Nat} {k : List α → Option ρ} : ∀ (l o : List α) (i : Nat), (o.length + l.length) * s ≤ 140737488355328 → o.length + l.length ≤ 1000000 →
    foldK (fun _ x (o : List α) c => (app s o [x]).bind c) k i l o = k (o ++ l)
  | [], o, i, _, _ => by simp [foldK]
  | x :: r, o, i, h, h' => by
    simp only [foldK]
    simp only [List.length_cons] at h h'
    have h1 : (o.length + 1) * s ≤ (o.length + (r.length + 1)) * s := Nat.mul_le_mul_right s (by omega)
    rw [app_ok (by simpa using Nat.le_trans h1 h) (by simp; omega)]
    simp only [Option.bind_some]
    rw [foldK_copy r (o ++ [x]) (i + 1) (by simpa [Nat.add_assoc, Nat.add_comm 1] using h) (by simp; omega)]
    simp
theorem f14_eq {N : Nat} {a : Layout} (h : a.Labels.length ≤ 30) (hN : 30 < N) : f14 N a = some a := by
  show f14_3 a (f14_c6 a) N (0 : Int) [] = _
  have := loopL (l := a.Labels) (F := fun n s i => f14_3 a (f14_c6 a) n i s) (g := fun _ x (o : List Label) c => (app 32 o [x]).bind c) (k := f14_c6 a)
    (fun n s i x hx => by
      have hi := (List.getElem?_eq_some_iff.1 hx).1
      simp only [f14_3, f14_3b, ix_nat, hx, Option.bind_some, decide_eq_true (show (i : Int) < (a.Labels.length : Int) by omega), cond_true, W_nat (show i < 9223372036854775807 by omega)])
    (fun n s => by simp [f14_3, f14_3b]) N [] (by omega)
  refine this.trans ?_
  rw [foldK_copy _ _ _ (by simp; omega) (by simp; omega)]
  simp [f14_c6]
theorem f19_eq {N : Nat} {a : List Kind} (h : a.length ≤ 30) (hN : 30 < N) : f19 N a = some a := by
  show f19_3 a f19_c6 N [] (0 : Int) = _
  have := loopL (l := a) (F := fun n s i => f19_3 a f19_c6 n s i) (g := fun _ x (o : List Kind) c => (app 24 o [x]).bind c) (k := f19_c6)
    (fun n s i x hx => by
      have hi := (List.getElem?_eq_some_iff.1 hx).1
      simp only [f19_3, f19_3b, ix_nat, hx, Option.bind_some, decide_eq_true (show (i : Int) < (a.length : Int) by omega), cond_true, W_nat (show i < 9223372036854775807 by omega)])
    (fun n s => by simp [f19_3, f19_3b]) N [] (by omega)
  refine this.trans ?_
  rw [foldK_copy _ _ _ (by simp; omega) (by simp; omega)]
  simp [f19_c6]

/-! Checks. -/
def okLabel (L : Layout) (x : Label) : Option Int :=
  if x.W < 1 then some 3 else if x.H < 1 then some 3 else if ¬ (0 ≤ x.X ∧ x.X ≤ L.W) then some 16 else if ¬ (0 ≤ x.Y ∧ x.Y ≤ L.H) then some 16
  else if W (L.W - x.X) < x.W then some 16 else if W (L.H - x.Y) < x.H then some 16 else none
def meets2 (a b : Label) : Bool := decide (a.X < W (b.X + b.W)) && (decide (b.X < W (a.X + a.W)) && (decide (a.Y < W (b.Y + b.H)) && decide (b.Y < W (a.Y + a.H))))
/-- a label meets an earlier one -/
def clashes : List Label → List Label → Bool
  | _, [] => false
  | p, x :: r => p.any (meets2 x) || clashes (p ++ [x]) r
def checkS (L : Layout) : Int :=
  if ¬ (1 ≤ L.W ∧ L.W ≤ 12) then 3 else if ¬ (1 ≤ L.H ∧ L.H ≤ 12) then 3 else if 10 < (L.Labels.length : Int) then 2
  else (L.Labels.findSome? (okLabel L)).getD (bif clashes [] L.Labels then 12 else 0)

def orE {ρ : Type} : Option ρ → Option ρ → Option ρ
  | some e, _ => some e
  | none, k => k
/-- the first loop of both -/
theorem foldK_find {α ρ : Type} {f : α → Option ρ} {k : Option ρ} : ∀ (l : List α) (i : Nat), foldK (fun _ x (_ : Unit) c => orE (f x) (c ())) (fun _ => k) i l () = orE (l.findSome? f) k
  | [], i => rfl
  | x :: r, i => by
    simp only [foldK, List.findSome?_cons]
    cases f x with
    | some e => rfl
    | none => exact foldK_find r (i + 1)
theorem any_fold {α : Type} {f : α → Bool} {e : Int} {k : Option Int} : ∀ (l : List α) (i : Nat), foldK (fun _ x (_ : Unit) c => bif f x then some e else c ()) (fun _ => k) i l () = bif l.any f then some e else k
  | [], i => rfl
  | x :: r, i => by
    simp only [foldK, List.any_cons]
    cases f x with
    | true => rfl
    | false => simpa using any_fold r (i + 1)
theorem clash_fold {k : Option Int} : ∀ (l p : List Label), foldK (fun i x (_ : Unit) c => bif ((p ++ l).take i).any (meets2 x) then some (12 : Int) else c ()) (fun _ => k) p.length l () = bif clashes p l then some 12 else k
  | [], p => rfl
  | x :: r, p => by
    simp only [foldK, clashes, List.take_left']
    cases h : p.any (meets2 x) with
    | true => rfl
    | false =>
      have := clash_fold (k := k) r (p ++ [x])
      simp only [List.append_assoc, List.singleton_append, List.length_append, List.length_singleton] at this
      simpa using this
theorem f20_eq {N : Nat} {a : Layout} (h : a.Labels.length ≤ 30) (hN : 30 < N) : f20 N a = some (checkS a) := by
  have h17 : ∀ (i : Nat) (k1 : Option Int) (x3 : Label) (x4 : List Label), x4.length ≤ 30 → f20_17 a N (i : Int) k1 x3 x4 N (0 : Int) = bif x4.any (meets2 x3) then some 12 else k1 := by
    intro i k1 x3 x4 hx4
    have := loopL (l := x4) (F := fun n (_ : Unit) j => f20_17 a N (i : Int) k1 x3 x4 n j) (g := fun _ x (_ : Unit) c => bif meets2 x3 x then some (12 : Int) else c ()) (k := fun _ => k1)
      (fun n s j x hx => by
        have hi := (List.getElem?_eq_some_iff.1 hx).1
        simp only [f20_17, f20_17b, ix_nat, hx, Option.bind_some, decide_eq_true (show (j : Int) < (x4.length : Int) by omega), cond_true, W_nat (show j < 9223372036854775807 by omega), f53, f55, meets2]
        cases decide (x3.X < W (x.X + x.W)) <;> cases decide (x.X < W (x3.X + x3.W)) <;> cases decide (x3.Y < W (x.Y + x.H)) <;> cases decide (x.Y < W (x3.Y + x3.H)) <;> rfl)
      (fun n s => by simp [f20_17, f20_17b]) N () (by omega)
    exact this.trans (any_fold _ _)
  have h14 : f20_c13 a N = bif clashes [] a.Labels then some 12 else some 0 := by
    show f20_14 a N f20_c23 N (0 : Int) = _
    have := loopL (l := a.Labels) (F := fun n (_ : Unit) j => f20_14 a N f20_c23 n j) (g := fun i x (_ : Unit) c => bif (a.Labels.take i).any (meets2 x) then some (12 : Int) else c ()) (k := fun _ => f20_c23)
      (fun n s j x hx => by
        have hi := (List.getElem?_eq_some_iff.1 hx).1
        simp only [f20_14, f20_14b, joinK, ix_nat, hx, Option.bind_some, decide_eq_true (show (j : Int) < (a.Labels.length : Int) by omega), cond_true]
        rw [show sub a.Labels 0 (j : Int) = some (a.Labels.take j) from (sub_nat (a := 0) (by omega) (by omega)).trans (by simp)]
        simp only [Option.bind_some]
        rw [h17 j _ x _ (by simp; omega), f20_c22, W_nat (show j < 9223372036854775807 by omega)])
      (fun n s => by simp [f20_14, f20_14b]) N () (by omega)
    refine this.trans ?_
    exact clash_fold (k := f20_c23) a.Labels []
  have h6 : f20_6 a N (f20_c13 a N) N (0 : Int) = orE (a.Labels.findSome? (okLabel a)) (f20_c13 a N) := by
    have := loopL (l := a.Labels) (F := fun n (_ : Unit) j => f20_6 a N (f20_c13 a N) n j) (g := fun i x (_ : Unit) c => orE (okLabel a x) (c ())) (k := fun _ => f20_c13 a N)
      (fun n s j x hx => by
        have hi := (List.getElem?_eq_some_iff.1 hx).1
        simp only [orE, f20_6, f20_6b, ix_nat, hx, Option.bind_some, decide_eq_true (show (j : Int) < (a.Labels.length : Int) by omega), cond_true, W_nat (show j < 9223372036854775807 by omega), f52_eq, okLabel]
        by_cases c1 : x.W < 1
        · simp [c1, orE]
        by_cases c2 : x.H < 1
        · simp [c1, c2]
        by_cases c3 : 0 ≤ x.X ∧ x.X ≤ a.W
        · by_cases c4 : 0 ≤ x.Y ∧ x.Y ≤ a.H
          · by_cases c5 : W (a.W - x.X) < x.W
            · simp [c1, c2, c3, c4, c5]
            · by_cases c6 : W (a.H - x.Y) < x.H <;> simp [c1, c2, c3, c4, c5, c6]
          · have : (decide (0 ≤ x.Y) && decide (x.Y ≤ a.H)) = false := by simpa using c4
            simp [c1, c2, c3, c4, this]
        · have : (decide (0 ≤ x.X) && decide (x.X ≤ a.W)) = false := by simpa using c3
          simp [c1, c2, c3, this])
      (fun n s => by simp [f20_6, f20_6b]) N () (by omega)
    exact this.trans (foldK_find _ _)
  rw [h14] at h6
  unfold f20 checkS
  simp only [f52_eq, Option.bind_some, joinK, h14, h6]
  by_cases c1 : 1 ≤ a.W ∧ a.W ≤ 12
  · by_cases c2 : 1 ≤ a.H ∧ a.H ≤ 12
    · by_cases c3 : 10 < (a.Labels.length : Int)
      · simp [c1, c2, c3]
      · simp only [c1, c2, c3, decide_true, Bool.and_self, Bool.not_true, cond_false, decide_false, not_true_eq_false, if_false, and_self]
        cases a.Labels.findSome? (okLabel a) with
        | some e => rfl
        | none => cases clashes [] a.Labels <;> rfl
    · have : (decide (1 ≤ a.H) && decide (a.H ≤ 12)) = false := by simpa using c2
      simp [c1, c2, this]
  · have : (decide (1 ≤ a.W) && decide (a.W ≤ 12)) = false := by simpa using c1
    simp [c1, this]
theorem f57_eq {N : Nat} {x y : Label} : f57 N x y = some (meets2 x y) := by
  unfold f57 meets2
  cases decide (x.X < W (y.X + y.W)) <;> cases decide (y.X < W (x.X + x.W)) <;> cases decide (x.Y < W (y.Y + y.H)) <;> cases decide (y.Y < W (x.Y + x.H)) <;> rfl
theorem f21_eq {N : Nat} {a : Layout} (h : a.Labels.length ≤ 30) (hN : 30 < N) : f21 N a = some (checkS a) := by
  have h17 : ∀ (i : Nat) (k1 : Option Int) (x3 : Label), a.Labels[i]? = some x3 → f21_17 a N (i : Int) k1 N (0 : Int) = bif (a.Labels.take i).any (meets2 x3) then some 12 else k1 := by
    intro i k1 x3 hx3
    have hi3 := (List.getElem?_eq_some_iff.1 hx3).1
    have := loopL (l := a.Labels.take i) (F := fun n (_ : Unit) j => f21_17 a N (i : Int) k1 n j) (g := fun _ x (_ : Unit) c => bif meets2 x3 x then some (12 : Int) else c ()) (k := fun _ => k1)
      (fun n s j x hx => by
        have hi := (List.getElem?_eq_some_iff.1 hx).1
        have hj : j < i := by simp at hi; omega
        have hx' : a.Labels[j]? = some x := by rw [List.getElem?_take] at hx; simpa [hj] using hx
        simp only [f21_17, f21_17b, ix_nat, hx', hx3, Option.bind_some, decide_eq_true (show (j : Int) < (i : Int) by omega), cond_true, W_nat (show j < 9223372036854775807 by omega), f57_eq])
      (fun n s => by
        have : (a.Labels.take i).length = i := by simp; omega
        rw [this]; simp [f21_17, f21_17b]) N () (by simp; omega)
    exact this.trans (any_fold _ _)
  have h14 : f21_c13 a N = bif clashes [] a.Labels then some 12 else some 0 := by
    show f21_14 a N f21_c21 N (0 : Int) = _
    have := loopL (l := a.Labels) (F := fun n (_ : Unit) j => f21_14 a N f21_c21 n j) (g := fun i x (_ : Unit) c => bif (a.Labels.take i).any (meets2 x) then some (12 : Int) else c ()) (k := fun _ => f21_c21)
      (fun n s j x hx => by
        have hi := (List.getElem?_eq_some_iff.1 hx).1
        simp only [f21_14, f21_14b, joinK, decide_eq_true (show (j : Int) < (a.Labels.length : Int) by omega), cond_true]
        rw [h17 j _ x hx, f21_c15, W_nat (show j < 9223372036854775807 by omega)])
      (fun n s => by simp [f21_14, f21_14b]) N () (by omega)
    refine this.trans ?_
    exact clash_fold (k := f21_c21) a.Labels []
  have h6 : f21_6 a N (f21_c13 a N) N (0 : Int) = orE (a.Labels.findSome? (okLabel a)) (f21_c13 a N) := by
    have := loopL (l := a.Labels) (F := fun n (_ : Unit) j => f21_6 a N (f21_c13 a N) n j) (g := fun i x (_ : Unit) c => orE (okLabel a x) (c ())) (k := fun _ => f21_c13 a N)
      (fun n s j x hx => by
        have hi := (List.getElem?_eq_some_iff.1 hx).1
        simp only [orE, f21_6, f21_6b, ix_nat, hx, Option.bind_some, decide_eq_true (show (j : Int) < (a.Labels.length : Int) by omega), cond_true, W_nat (show j < 9223372036854775807 by omega), f56_eq, okLabel]
        by_cases c1 : x.W < 1
        · simp [c1, orE]
        by_cases c2 : x.H < 1
        · simp [c1, c2]
        by_cases c3 : 0 ≤ x.X ∧ x.X ≤ a.W
        · by_cases c4 : 0 ≤ x.Y ∧ x.Y ≤ a.H
          · by_cases c5 : W (a.W - x.X) < x.W
            · simp [c1, c2, c3, c4, c5]
            · by_cases c6 : W (a.H - x.Y) < x.H <;> simp [c1, c2, c3, c4, c5, c6]
          · have : (decide (0 ≤ x.Y) && decide (x.Y ≤ a.H)) = false := by simpa using c4
            simp [c1, c2, c3, c4, this]
        · have : (decide (0 ≤ x.X) && decide (x.X ≤ a.W)) = false := by simpa using c3
          simp [c1, c2, c3, this])
      (fun n s => by simp [f21_6, f21_6b]) N () (by omega)
    exact this.trans (foldK_find _ _)
  rw [h14] at h6
  unfold f21 checkS
  simp only [f56_eq, Option.bind_some, joinK, h14, h6]
  by_cases c1 : 1 ≤ a.W ∧ a.W ≤ 12
  · by_cases c2 : 1 ≤ a.H ∧ a.H ≤ 12
    · by_cases c3 : 10 < (a.Labels.length : Int)
      · simp [c1, c2, c3]
      · simp only [c1, c2, c3, decide_true, Bool.and_self, Bool.not_true, cond_false, decide_false, not_true_eq_false, if_false, and_self]
        cases a.Labels.findSome? (okLabel a) with
        | some e => rfl
        | none => cases clashes [] a.Labels <;> rfl
    · have : (decide (1 ≤ a.H) && decide (a.H ≤ 12)) = false := by simpa using c2
      simp [c1, c2, this]
  · have : (decide (1 ≤ a.W) && decide (a.W ≤ 12)) = false := by simpa using c1
    simp [c1, this]
end Go.Vc
namespace Go.Vc
open Go.Proofs
set_option linter.unusedVariables false
set_option linter.unnecessarySimpa false
set_option linter.unusedSimpArgs false
/- f50: tusche/tuscheref06.kinded -/
def f50_c11 : Option (Int) :=
 some ((0 : Int))
def Sf50_c11 : Ann := ⟨[], [], [], []⟩
def Vf50_c11 : List SV := []
def Bf50_c11 : List Blk := []
theorem Cf50_c11 {c : Ctx} {p nid : Nat} {a b : Code} {st : St} {K : Ex → St → Prop} {r : Int} {g : _ → Option (Int)} (hn : Nat.beq (nid * 1000 + firstRegion b) 11 = true) (hz : Sf50_c11.ok p = true)
    (h : g f50_c11 = some r → vc c p nid a st (Kseq (fun st' => st'.head Sf50_c11 fun v bl => ∃ x, (fun y : Unit => f50_c11   = some r) x ∧ v = (fun y : Unit => Vf50_c11  ) x ∧ bl = (fun y : Unit => Bf50_c11  ) x) K))
    (h2 : ∀ (_ : Unit), f50_c11   = some r → vc c p nid b (St.mk' Sf50_c11 (Vf50_c11  ) (Bf50_c11  )) K) (hF : joinK f50_c11 g = some r) : vc c p nid (.seq a b) st K :=
  vc_cut Sf50_c11 (fun y : Unit => Vf50_c11  ) (fun y : Unit => Bf50_c11  ) (fun y : Unit => f50_c11   = some r) hz (h hF) fun y hy => h2 () hy
theorem Zf50_c11 {K : Ex → St → Prop} {r : Int} {st st' : St} (hF : f50_c11   = some r) (h1 : st.norm Sf50_c11 = some st') (h2 : st'.cutOk Sf50_c11.keep Sf50_c11.bs (memB Sf50_c11.bs) = true) (h3 : vals Sf50_c11.keep st'.e = Vf50_c11  ) (h4 : blks Sf50_c11.bs st'.m = Bf50_c11  ) :
    Kseq (fun st' => st'.head Sf50_c11 fun v bl => ∃ x, (fun y : Unit => f50_c11   = some r) x ∧ v = (fun y : Unit => Vf50_c11  ) x ∧ bl = (fun y : Unit => Bf50_c11  ) x) K .normal st := by
  exact k_seq (head_in (I := (fun y : Unit => f50_c11   = some r)) (x := ()) hF h1 h2 h3 h4)
def f50_6b (r6 : Int → Option (Int)) (a0 : List Kind) (N : Nat) (k0 : Option (Int)) (i3 : Int) : Option (Int) :=
 bif decide (i3 < (List.length a0 : Int)) then ((ix a0 i3).bind fun x1 =>
 (f56 N x1.W (1 : Int) (12 : Int)).bind fun x2 =>
 bif !x2 then (some ((3 : Int)))
 else ((f56 N x1.H (1 : Int) (12 : Int)).bind fun x3 =>
 bif !x3 then (some ((3 : Int)))
 else ((f56 N x1.Value (0 : Int) (1000 : Int)).bind fun x4 =>
 bif !x4 then (some ((3 : Int)))
 else (r6 (W (i3 + (1 : Int)))))))
 else k0
def f50_6 (a0 : List Kind) (N : Nat) (k0 : Option (Int)) : Nat → Int → Option (Int)
  | 0, _ => none
  | n + 1, i3 => f50_6b (f50_6 a0 N k0 n) a0 N k0 i3
def Sf50_6 : Ann := ⟨[0, 3], [], [], []⟩
def Vf50_6 (a0 : List Kind) (i3 : Int) : List SV := [.dat (sl_Kind a0), .dat (iN i3)]
def Bf50_6 (a0 : List Kind) (i3 : Int) : List Blk := []
theorem Lf50_6 {c : Ctx} {p nid : Nat} {a : Code} {K : Ex → St → Prop} {r : Int} {a0 : List Kind} {N : Nat} {k0 : Option (Int)} {fu : Nat} {i3 : Int} {st st' : St} (hz : Sf50_6.ok p = true) (h1 : st.norm Sf50_6 = some st') (h2 : st'.cutOk Sf50_6.keep Sf50_6.bs (memB Sf50_6.bs) = true) (h3 : vals Sf50_6.keep st'.e = Vf50_6 a0 i3) (h4 : blks Sf50_6.bs st'.m = Bf50_6 a0 i3)
    (h : ∀ (n : Nat) (i3 : Int), f50_6b (f50_6 a0 N k0 n) a0 N k0 i3 = some r → vc c p nid a (St.mk' Sf50_6 (Vf50_6 a0 i3) (Bf50_6 a0 i3)) (Kloop Sf50_6 (fun y : Nat × Int => Vf50_6 a0 y.2) (fun y : Nat × Int => Bf50_6 a0 y.2) (fun y : Nat × Int => f50_6 a0 N k0 y.1 y.2 = some r) (fun y : Nat × Int => y.1) (n + 1, i3) K)) (hF : f50_6 a0 N k0 fu i3 = some r) : vc c p nid (.loop a) st K := by
  refine vc_loop Sf50_6 (fun y : Nat × Int => Vf50_6 a0 y.2) (fun y : Nat × Int => Bf50_6 a0 y.2) (fun y : Nat × Int => f50_6 a0 N k0 y.1 y.2 = some r) (fun y : Nat × Int => y.1) hz (head_in (x := (fu, i3)) hF h1 h2 h3 h4) ?_
  rintro ⟨_ | n, i3⟩ hI
  · cases hI
  · exact h n i3 hI
theorem Mf50_6 {K : Ex → St → Prop} {r : Int} {a0 : List Kind} {N : Nat} {k0 : Option (Int)} {n : Nat} {i3 : Int} {i3_ : Int} {st st' : St} (hF : f50_6 a0 N k0 n i3 = some r) (h1 : st.norm Sf50_6 = some st') (h2 : st'.cutOk Sf50_6.keep Sf50_6.bs (memB Sf50_6.bs) = true) (h3 : vals Sf50_6.keep st'.e = Vf50_6 a0 i3) (h4 : blks Sf50_6.bs st'.m = Bf50_6 a0 i3) :
    Kloop Sf50_6 (fun y : Nat × Int => Vf50_6 a0 y.2) (fun y : Nat × Int => Bf50_6 a0 y.2) (fun y : Nat × Int => f50_6 a0 N k0 y.1 y.2 = some r) (fun y : Nat × Int => y.1) (n + 1, i3_) K .normal st := by
  exact head_back (y := (n, i3)) hF (Nat.lt_succ_self n) h1 h2 h3 h4
def f50 (N : Nat) (a0 : List Kind) : Option (Int) :=
 bif decide ((List.length a0 : Int) = (0 : Int)) then (some ((1 : Int)))
 else (bif decide ((6 : Int) < (List.length a0 : Int)) then (some ((2 : Int)))
 else (joinK f50_c11 fun k0 =>
 f50_6 a0 N k0 N (0 : Int)))
def G50 (ds : List D) (d : D) : Prop := ∃ (N : Nat) (a0 : List Kind) (r : Int), ds = [sl_Kind a0] ∧ f50 N a0 = some r ∧ d = iN r
theorem G50.step {N : Nat} {a0 : List Kind} {ρ : Type} {A : Int → Option ρ} {q : ρ} {ds : List D} {K : D → Prop} (hd : ds = [sl_Kind a0]) (h : ∀ r, A r = some q → K (iN r)) (hF : (f50 N a0).bind A = some q) : ∃ d, G50 ds d ∧ K d := by
  obtain ⟨r, hr, hA⟩ := bind_some hF
  exact ⟨_, ⟨N, a0, r, hd, hr, rfl⟩, h r hA⟩
set_option maxRecDepth 20000 in
set_option maxHeartbeats 4000000 in
theorem P50 : PureOK Try.prog 50 G50 := by
  refine pure_of_vc (c := mkCtx tyTree [(56, true, purePg [[0], [0], [0]] G56)]) rfl tyOK (ctx_cons (callable Try.func56 rfl rfl) P56 (ctx_nil)) [[0]] 1 Try.func50 rfl rfl (by decide) (by kernel_rfl) ?_
  rintro ds d ⟨N, a0, r, rfl, hF, rfl⟩ hok
  clear hok
  refine ⟨rfl, ?_⟩
  show vc _ _ _ _ ⟨[(0, .dat (sl_Kind a0))], []⟩ _
  unfold f50 at hF
  repeat' (first
    | ((with_reducible refine q0 _ _ ?_); clear Q q0 q1 q2)
    | ((with_reducible refine q1 _ _ _ _ ?_); clear Q q0 q1 q2)
    | ((with_reducible refine q2 _ _ _ ?_); clear Q q0 q1 q2)
    | ((with_reducible refine seq_op ?hx (fun Q q0 q1 q2 => ?_)); (case hx => exact rfl); conv => whnf)
    | ((with_reducible refine draw_op ?hx (fun Q q0 q1 q2 => ?_)); (case hx => exact rfl); conv => whnf)
    | ((with_reducible refine seq_op0 ?hx (fun Q q0 q1 q2 => ?_)); (case hx => exact rfl); conv => whnf)
    | ((with_reducible refine draw_op0 ?hx (fun Q q0 q1 q2 => ?_)); (case hx => exact rfl); conv => whnf)
    | ((with_reducible refine seq_off ?hx ?_); (case hx => exact rfl))
    | ((with_reducible refine seq_off0 ?hx ?_); (case hx => exact rfl))
    | ((with_reducible refine draw_off ?hx ?_); (case hx => exact rfl))
    | ((with_reducible refine draw_off0 ?hx ?_); (case hx => exact rfl))
    | ((with_reducible refine seq_id ?_); (first | ((refine seq_opK rfl ?hy (fun Q q0 q1 q2 => ?_)); (case hy => first | assumption | exact notT (by assumption) | exact rfl); conv => whnf) | ((refine seq_offK rfl ?hy ?_); (case hy => first | assumption | exact notF (by assumption) | exact rfl)) | ((refine seq_opK0 rfl ?hy (fun Q q0 q1 q2 => ?_)); (case hy => first | assumption | exact notT (by assumption) | exact rfl); conv => whnf) | ((refine seq_offK0 rfl ?hy ?_); (case hy => first | assumption | exact notF (by assumption) | exact rfl)) | (revert hF; (with_reducible refine seq_opF ?hx ?_ ?_); (case hx => exact rfl); (intro hc hF Q q0 q1 q2; conv => whnf); rotate_left; (intro hc hF); rotate_right) | (revert hF; (with_reducible refine seq_opN ?hx ?_ ?_); (case hx => exact rfl); (intro hc hF); rotate_left; (intro hc hF Q q0 q1 q2; conv => whnf); rotate_right) | (revert hF; (with_reducible refine seq_opF0 ?hx ?_ ?_); (case hx => exact rfl); (intro hc hF Q q0 q1 q2; conv => whnf); rotate_left; (intro hc hF); rotate_right) | (revert hF; (with_reducible refine seq_opN0 ?hx ?_ ?_); (case hx => exact rfl); (intro hc hF); rotate_left; (intro hc hF Q q0 q1 q2; conv => whnf); rotate_right)))
    | ((with_reducible refine draw_id ?_); (first | ((refine draw_opK rfl ?hy (fun Q q0 q1 q2 => ?_)); (case hy => first | assumption | exact notT (by assumption) | exact rfl); conv => whnf) | ((refine draw_offK rfl ?hy ?_); (case hy => first | assumption | exact notF (by assumption) | exact rfl)) | ((refine draw_opK0 rfl ?hy (fun Q q0 q1 q2 => ?_)); (case hy => first | assumption | exact notT (by assumption) | exact rfl); conv => whnf) | ((refine draw_offK0 rfl ?hy ?_); (case hy => first | assumption | exact notF (by assumption) | exact rfl)) | (revert hF; (with_reducible refine draw_opF ?hx ?_ ?_); (case hx => exact rfl); (intro hc hF Q q0 q1 q2; conv => whnf); rotate_left; (intro hc hF); rotate_right) | (revert hF; (with_reducible refine draw_opN ?hx ?_ ?_); (case hx => exact rfl); (intro hc hF); rotate_left; (intro hc hF Q q0 q1 q2; conv => whnf); rotate_right) | (revert hF; (with_reducible refine draw_opF0 ?hx ?_ ?_); (case hx => exact rfl); (intro hc hF Q q0 q1 q2; conv => whnf); rotate_left; (intro hc hF); rotate_right) | (revert hF; (with_reducible refine draw_opN0 ?hx ?_ ?_); (case hx => exact rfl); (intro hc hF); rotate_left; (intro hc hF Q q0 q1 q2; conv => whnf); rotate_right)))
    | ((with_reducible refine cond_id ?_); (first | ((refine condKT rfl ?hy ?_); (case hy => first | assumption | exact notT (by assumption) | exact rfl)) | ((refine condKF rfl ?hy ?_); (case hy => first | assumption | exact notF (by assumption) | exact rfl)) | (revert hF; (with_reducible refine condF ?hx ?_ ?_); (case hx => exact rfl); all_goals (intro hc hF))))
    | ((with_reducible refine seq_nil ?_); (first | ((with_reducible refine hR _ ?_); clear R hR) | ((with_reducible refine hL _ ?_); clear L hL)))
    | ((with_reducible refine draw_nil ?_); (with_reducible refine hR _ _ ?hx ?_); (case hx => kernel_rfl); (first | clear R hR | clear hR))
    | ((with_reducible refine int_step ?_); conv => whnf)
    | ((with_reducible refine len_step ?_); conv => whnf)
    | ((with_reducible refine idx2 (by assumption) ?_); conv => whnf)
    | ((with_reducible refine idx3 (by assumption) ?_); conv => whnf)
    | with_reducible refine vc_block ?_
    | with_reducible refine vc_skip ?_
    | with_reducible refine vc_ret ?_
    | with_reducible refine vc_exit ?_
    | ((with_reducible refine vc_seqN [11] ?hx ?_); (case hx => exact rfl))
    | (with_reducible refine vc_region (fun R hR => ?_))
    | ((with_reducible refine vc_draw ?hx (fun R hR => ?_)); (case hx => exact rfl))
    | fail
    | (revert hF; (refine Cf50_c11 rfl rfl ?_ ?_); (intro hF); rotate_left; (intro _ hF; unfold f50_c11 at hF); rotate_right)
    | exact Zf50_c11 hF rfl rfl rfl rfl
    | (revert hF; (refine Lf50_6 rfl rfl rfl rfl rfl ?_); intro n i3 hF; unfold f50_6b at hF)
    | exact Mf50_6 hF rfl rfl rfl rfl
    | (revert hF; (with_reducible refine G56.step ?hx ?_); (case hx => exact rfl); intro v hF; conv => whnf)
    | with_reducible refine k_seq_ret ?_
    | with_reducible refine k_seq_exit ?_
    | with_reducible refine k_blk ?_
    | with_reducible refine k_blk_ret ?_
    | with_reducible refine k_blk_here ?_
    | ((with_reducible refine k_blk_out ?hx ?_); (case hx => exact rfl))
    | with_reducible refine k_loop_ret ?_
    | with_reducible refine k_loop_exit ?_
    | (revert hF; (with_reducible refine idx1 ?hn ?_); (case hn => first | exact rfl | exact (List.length_map _) | assumption | omega | simp); intro x hx hF; conv => whnf)
    | ((with_reducible have hG := sub_fact hF); clear hF; (first | (refine sub_step hG (fun q hF => ?_)) | (refine subrow_step hG ?hn (fun q hF => ?_); (case hn => first | exact rfl | assumption | omega))); clear hG; conv => whnf)
    | ((with_reducible have hG := app_fact hF); clear hF; (first | ((refine app_row hG ?hn ?hs (fun q hF => ?_)); (case hn => first | exact rfl | assumption | omega); (case hs => exact rfl)) ); clear hG; conv => whnf)
    | ((refine row_all ?hn ?_); (case hn => first | exact rfl | (simp; done) | (simp; omega)); conv => whnf)
    | ((with_reducible refine le_step ?hn ?_); (case hn => first | exact rfl | assumption | omega); conv => whnf)
    | ((with_reducible have hG := setx_fact hF); clear hF; (refine setx_step hG ?hs (fun q hl hF => ?_)); (case hs => exact rfl); clear hG; conv => whnf)
    | (revert hF; (with_reducible refine dem_step ?_ ?_); (intro hl hF; conv => whnf); rotate_left; (intro hF; conv => whnf); rotate_right)
    | ((refine ⟨?hx, ?_⟩); (case hx => exact ⟨rfl, Nat.le_of_ble_eq_true rfl, rfl⟩); conv => whnf)
    | ((with_reducible refine ex_step ?_); conv => whnf)
    | ((with_reducible have hG := chk_fact hF); clear hF; (refine ⟨?hx, ?_⟩); (case hx => (first | exact of_decide_eq_true hG.1 | exact hG.1)); have hF := hG.2; clear hG; conv => whnf)
    | ((with_reducible refine both_T ?hx ?_); (case hx => first | exact rfl | assumption | exact notT (by assumption)); conv => whnf)
    | ((with_reducible refine both_F ?hx ?_); (case hx => first | exact rfl | assumption | exact notF (by assumption)); conv => whnf)
    | (revert hF; (with_reducible refine ite_step ?_ ?_) <;> (intro hc hF; conv => whnf))
    | ((with_reducible refine vc_condT ?hx ?_); (case hx => exact rfl))
    | ((with_reducible refine vc_condF ?hx ?_); (case hx => exact rfl))
    | (show retD _ _ _ _ _ _; conv => whnf)
    | ((refine inl_step ?ha ?hb ?hc rfl ?_); (case ha => exact rfl); (case hb => omega); (case hc => exact Nat.le_of_ble_eq_true rfl))
    | (show Kinl _ _ _ _ _ _ _; conv => whnf)
    | ((with_reducible refine kinl_step ?ha ?hb ?_); (case ha => exact rfl); (case hb => exact rfl); conv => whnf)
    | ((refine ⟨?hx, trivial⟩); (case hx => (cases hF; exact rfl)))
    | ((refine ⟨?hx, ?_⟩); (case hx => decide); conv => whnf)
    | ((with_reducible refine k_seq ?_))
    | (have hF : (none : Option _) = some _ := hF; cases hF))
end Go.Vc
namespace Go.Vc
open Go.Proofs
set_option linter.unusedVariables false
set_option linter.unnecessarySimpa false
set_option linter.unusedSimpArgs false
/- f51: tusche/tuscheref06.worth -/
def f51_c7 (out7 : Int) : Option (Int) :=
 some (out7)
def Sf51_c7 : Ann := ⟨[7], [], [], []⟩
def Vf51_c7 (out7 : Int) : List SV := [.dat (iN out7)]
def Bf51_c7 (out7 : Int) : List Blk := []
theorem Cf51_c7 {c : Ctx} {p nid : Nat} {a b : Code} {st : St} {K : Ex → St → Prop} {r : Int} {g : _ → Option (Int)} (hn : Nat.beq (nid * 1000 + firstRegion b) 7 = true) (hz : Sf51_c7.ok p = true)
    (h : g f51_c7 = some r → vc c p nid a st (Kseq (fun st' => st'.head Sf51_c7 fun v bl => ∃ x, (fun y : Int => f51_c7  y = some r) x ∧ v = (fun y : Int => Vf51_c7  y) x ∧ bl = (fun y : Int => Bf51_c7  y) x) K))
    (h2 : ∀ (out7 : Int), f51_c7  out7 = some r → vc c p nid b (St.mk' Sf51_c7 (Vf51_c7  out7) (Bf51_c7  out7)) K) (hF : joinK f51_c7 g = some r) : vc c p nid (.seq a b) st K :=
  vc_cut Sf51_c7 (fun y : Int => Vf51_c7  y) (fun y : Int => Bf51_c7  y) (fun y : Int => f51_c7  y = some r) hz (h hF) fun y hy => h2 y hy
theorem Zf51_c7 {K : Ex → St → Prop} {r : Int} {out7 : Int} {st st' : St} (hF : f51_c7  out7 = some r) (h1 : st.norm Sf51_c7 = some st') (h2 : st'.cutOk Sf51_c7.keep Sf51_c7.bs (memB Sf51_c7.bs) = true) (h3 : vals Sf51_c7.keep st'.e = Vf51_c7  out7) (h4 : blks Sf51_c7.bs st'.m = Bf51_c7  out7) :
    Kseq (fun st' => st'.head Sf51_c7 fun v bl => ∃ x, (fun y : Int => f51_c7  y = some r) x ∧ v = (fun y : Int => Vf51_c7  y) x ∧ bl = (fun y : Int => Bf51_c7  y) x) K .normal st := by
  exact k_seq (head_in (I := (fun y : Int => f51_c7  y = some r)) (x := (out7)) hF h1 h2 h3 h4)
def f51_3b (r3 : Int → Int → Option (Int)) (a0 : Int) (a1 : Int) (a2 : List Kind) (k0 : Int → Option (Int)) (out7 : Int) (i8 : Int) : Option (Int) :=
 bif decide (i8 < (List.length a2 : Int)) then ((ix a2 i8).bind fun x1 =>
 bif decide (x1.W = a0) then ((ix a2 i8).bind fun x2 =>
 bif decide (x2.H = a1) then ((ix a2 i8).bind fun x3 =>
 r3 (max out7 x3.Value) (W (i8 + (1 : Int))))
 else (r3 out7 (W (i8 + (1 : Int)))))
 else (r3 out7 (W (i8 + (1 : Int)))))
 else (k0 out7)
def f51_3 (a0 : Int) (a1 : Int) (a2 : List Kind) (k0 : Int → Option (Int)) : Nat → Int → Int → Option (Int)
  | 0, _, _ => none
  | n + 1, out7, i8 => f51_3b (f51_3 a0 a1 a2 k0 n) a0 a1 a2 k0 out7 i8
def Sf51_3 : Ann := ⟨[0, 1, 2, 7, 8], [], [], []⟩
def Vf51_3 (a0 : Int) (a1 : Int) (a2 : List Kind) (out7 : Int) (i8 : Int) : List SV := [.dat (iN a0), .dat (iN a1), .dat (sl_Kind a2), .dat (iN out7), .dat (iN i8)]
def Bf51_3 (a0 : Int) (a1 : Int) (a2 : List Kind) (out7 : Int) (i8 : Int) : List Blk := []
theorem Lf51_3 {c : Ctx} {p nid : Nat} {a : Code} {K : Ex → St → Prop} {r : Int} {a0 : Int} {a1 : Int} {a2 : List Kind} {k0 : Int → Option (Int)} {fu : Nat} {out7 : Int} {i8 : Int} {st st' : St} (hz : Sf51_3.ok p = true) (h1 : st.norm Sf51_3 = some st') (h2 : st'.cutOk Sf51_3.keep Sf51_3.bs (memB Sf51_3.bs) = true) (h3 : vals Sf51_3.keep st'.e = Vf51_3 a0 a1 a2 out7 i8) (h4 : blks Sf51_3.bs st'.m = Bf51_3 a0 a1 a2 out7 i8)
    (h : ∀ (n : Nat) (out7 : Int) (i8 : Int), f51_3b (f51_3 a0 a1 a2 k0 n) a0 a1 a2 k0 out7 i8 = some r → vc c p nid a (St.mk' Sf51_3 (Vf51_3 a0 a1 a2 out7 i8) (Bf51_3 a0 a1 a2 out7 i8)) (Kloop Sf51_3 (fun y : Nat × Int × Int => Vf51_3 a0 a1 a2 y.2.1 y.2.2) (fun y : Nat × Int × Int => Bf51_3 a0 a1 a2 y.2.1 y.2.2) (fun y : Nat × Int × Int => f51_3 a0 a1 a2 k0 y.1 y.2.1 y.2.2 = some r) (fun y : Nat × Int × Int => y.1) (n + 1, out7, i8) K)) (hF : f51_3 a0 a1 a2 k0 fu out7 i8 = some r) : vc c p nid (.loop a) st K := by
  refine vc_loop Sf51_3 (fun y : Nat × Int × Int => Vf51_3 a0 a1 a2 y.2.1 y.2.2) (fun y : Nat × Int × Int => Bf51_3 a0 a1 a2 y.2.1 y.2.2) (fun y : Nat × Int × Int => f51_3 a0 a1 a2 k0 y.1 y.2.1 y.2.2 = some r) (fun y : Nat × Int × Int => y.1) hz (head_in (x := (fu, out7, i8)) hF h1 h2 h3 h4) ?_
  rintro ⟨_ | n, out7, i8⟩ hI
  · cases hI
  · exact h n out7 i8 hI
theorem Mf51_3 {K : Ex → St → Prop} {r : Int} {a0 : Int} {a1 : Int} {a2 : List Kind} {k0 : Int → Option (Int)} {n : Nat} {out7 : Int} {i8 : Int} {out7_ : Int} {i8_ : Int} {st st' : St} (hF : f51_3 a0 a1 a2 k0 n out7 i8 = some r) (h1 : st.norm Sf51_3 = some st') (h2 : st'.cutOk Sf51_3.keep Sf51_3.bs (memB Sf51_3.bs) = true) (h3 : vals Sf51_3.keep st'.e = Vf51_3 a0 a1 a2 out7 i8) (h4 : blks Sf51_3.bs st'.m = Bf51_3 a0 a1 a2 out7 i8) :
    Kloop Sf51_3 (fun y : Nat × Int × Int => Vf51_3 a0 a1 a2 y.2.1 y.2.2) (fun y : Nat × Int × Int => Bf51_3 a0 a1 a2 y.2.1 y.2.2) (fun y : Nat × Int × Int => f51_3 a0 a1 a2 k0 y.1 y.2.1 y.2.2 = some r) (fun y : Nat × Int × Int => y.1) (n + 1, out7_, i8_) K .normal st := by
  exact head_back (y := (n, out7, i8)) hF (Nat.lt_succ_self n) h1 h2 h3 h4
def f51 (N : Nat) (a0 : Int) (a1 : Int) (a2 : List Kind) : Option (Int) :=
 joinK f51_c7 fun k0 =>
 f51_3 a0 a1 a2 k0 N (-1 : Int) (0 : Int)
def G51 (ds : List D) (d : D) : Prop := ∃ (N : Nat) (a0 : Int) (a1 : Int) (a2 : List Kind) (r : Int), ds = [iN a0, iN a1, sl_Kind a2] ∧ f51 N a0 a1 a2 = some r ∧ d = iN r
theorem G51.step {N : Nat} {a0 : Int} {a1 : Int} {a2 : List Kind} {ρ : Type} {A : Int → Option ρ} {q : ρ} {ds : List D} {K : D → Prop} (hd : ds = [iN a0, iN a1, sl_Kind a2]) (h : ∀ r, A r = some q → K (iN r)) (hF : (f51 N a0 a1 a2).bind A = some q) : ∃ d, G51 ds d ∧ K d := by
  obtain ⟨r, hr, hA⟩ := bind_some hF
  exact ⟨_, ⟨N, a0, a1, a2, r, hd, hr, rfl⟩, h r hA⟩
set_option maxRecDepth 20000 in
set_option maxHeartbeats 4000000 in
theorem P51 : PureOK Try.prog 51 G51 := by
  refine pure_of_vc (c := mkCtx tyTree []) rfl tyOK (ctx_nil) [[0]] 3 Try.func51 rfl rfl (by decide) (by kernel_rfl) ?_
  rintro ds d ⟨N, a0, a1, a2, r, rfl, hF, rfl⟩ hok
  clear hok
  refine ⟨rfl, ?_⟩
  show vc _ _ _ _ ⟨[(0, .dat (iN a0)), (1, .dat (iN a1)), (2, .dat (sl_Kind a2))], []⟩ _
  unfold f51 at hF
  repeat' (first
    | ((with_reducible refine q0 _ _ ?_); clear Q q0 q1 q2)
    | ((with_reducible refine q1 _ _ _ _ ?_); clear Q q0 q1 q2)
    | ((with_reducible refine q2 _ _ _ ?_); clear Q q0 q1 q2)
    | ((with_reducible refine seq_op ?hx (fun Q q0 q1 q2 => ?_)); (case hx => exact rfl); conv => whnf)
    | ((with_reducible refine draw_op ?hx (fun Q q0 q1 q2 => ?_)); (case hx => exact rfl); conv => whnf)
    | ((with_reducible refine seq_op0 ?hx (fun Q q0 q1 q2 => ?_)); (case hx => exact rfl); conv => whnf)
    | ((with_reducible refine draw_op0 ?hx (fun Q q0 q1 q2 => ?_)); (case hx => exact rfl); conv => whnf)
    | ((with_reducible refine seq_off ?hx ?_); (case hx => exact rfl))
    | ((with_reducible refine seq_off0 ?hx ?_); (case hx => exact rfl))
    | ((with_reducible refine draw_off ?hx ?_); (case hx => exact rfl))
    | ((with_reducible refine draw_off0 ?hx ?_); (case hx => exact rfl))
    | ((with_reducible refine seq_id ?_); (first | ((refine seq_opK rfl ?hy (fun Q q0 q1 q2 => ?_)); (case hy => first | assumption | exact notT (by assumption) | exact rfl); conv => whnf) | ((refine seq_offK rfl ?hy ?_); (case hy => first | assumption | exact notF (by assumption) | exact rfl)) | ((refine seq_opK0 rfl ?hy (fun Q q0 q1 q2 => ?_)); (case hy => first | assumption | exact notT (by assumption) | exact rfl); conv => whnf) | ((refine seq_offK0 rfl ?hy ?_); (case hy => first | assumption | exact notF (by assumption) | exact rfl)) | (revert hF; (with_reducible refine seq_opF ?hx ?_ ?_); (case hx => exact rfl); (intro hc hF Q q0 q1 q2; conv => whnf); rotate_left; (intro hc hF); rotate_right) | (revert hF; (with_reducible refine seq_opN ?hx ?_ ?_); (case hx => exact rfl); (intro hc hF); rotate_left; (intro hc hF Q q0 q1 q2; conv => whnf); rotate_right) | (revert hF; (with_reducible refine seq_opF0 ?hx ?_ ?_); (case hx => exact rfl); (intro hc hF Q q0 q1 q2; conv => whnf); rotate_left; (intro hc hF); rotate_right) | (revert hF; (with_reducible refine seq_opN0 ?hx ?_ ?_); (case hx => exact rfl); (intro hc hF); rotate_left; (intro hc hF Q q0 q1 q2; conv => whnf); rotate_right)))
    | ((with_reducible refine draw_id ?_); (first | ((refine draw_opK rfl ?hy (fun Q q0 q1 q2 => ?_)); (case hy => first | assumption | exact notT (by assumption) | exact rfl); conv => whnf) | ((refine draw_offK rfl ?hy ?_); (case hy => first | assumption | exact notF (by assumption) | exact rfl)) | ((refine draw_opK0 rfl ?hy (fun Q q0 q1 q2 => ?_)); (case hy => first | assumption | exact notT (by assumption) | exact rfl); conv => whnf) | ((refine draw_offK0 rfl ?hy ?_); (case hy => first | assumption | exact notF (by assumption) | exact rfl)) | (revert hF; (with_reducible refine draw_opF ?hx ?_ ?_); (case hx => exact rfl); (intro hc hF Q q0 q1 q2; conv => whnf); rotate_left; (intro hc hF); rotate_right) | (revert hF; (with_reducible refine draw_opN ?hx ?_ ?_); (case hx => exact rfl); (intro hc hF); rotate_left; (intro hc hF Q q0 q1 q2; conv => whnf); rotate_right) | (revert hF; (with_reducible refine draw_opF0 ?hx ?_ ?_); (case hx => exact rfl); (intro hc hF Q q0 q1 q2; conv => whnf); rotate_left; (intro hc hF); rotate_right) | (revert hF; (with_reducible refine draw_opN0 ?hx ?_ ?_); (case hx => exact rfl); (intro hc hF); rotate_left; (intro hc hF Q q0 q1 q2; conv => whnf); rotate_right)))
    | ((with_reducible refine cond_id ?_); (first | ((refine condKT rfl ?hy ?_); (case hy => first | assumption | exact notT (by assumption) | exact rfl)) | ((refine condKF rfl ?hy ?_); (case hy => first | assumption | exact notF (by assumption) | exact rfl)) | (revert hF; (with_reducible refine condF ?hx ?_ ?_); (case hx => exact rfl); all_goals (intro hc hF))))
    | ((with_reducible refine seq_nil ?_); (first | ((with_reducible refine hR _ ?_); clear R hR) | ((with_reducible refine hL _ ?_); clear L hL)))
    | ((with_reducible refine draw_nil ?_); (with_reducible refine hR _ _ ?hx ?_); (case hx => kernel_rfl); (first | clear R hR | clear hR))
    | ((with_reducible refine int_step ?_); conv => whnf)
    | ((with_reducible refine len_step ?_); conv => whnf)
    | ((with_reducible refine idx2 (by assumption) ?_); conv => whnf)
    | ((with_reducible refine idx3 (by assumption) ?_); conv => whnf)
    | with_reducible refine vc_block ?_
    | with_reducible refine vc_skip ?_
    | with_reducible refine vc_ret ?_
    | with_reducible refine vc_exit ?_
    | ((with_reducible refine vc_seqN [7] ?hx ?_); (case hx => exact rfl))
    | (with_reducible refine vc_region (fun R hR => ?_))
    | ((with_reducible refine vc_draw ?hx (fun R hR => ?_)); (case hx => exact rfl))
    | fail
    | (revert hF; (refine Cf51_c7 rfl rfl ?_ ?_); (intro hF); rotate_left; (intro out7 hF; unfold f51_c7 at hF); rotate_right)
    | exact Zf51_c7 hF rfl rfl rfl rfl
    | (revert hF; (refine Lf51_3 rfl rfl rfl rfl rfl ?_); intro n out7 i8 hF; unfold f51_3b at hF)
    | exact Mf51_3 hF rfl rfl rfl rfl
    | with_reducible refine k_seq_ret ?_
    | with_reducible refine k_seq_exit ?_
    | with_reducible refine k_blk ?_
    | with_reducible refine k_blk_ret ?_
    | with_reducible refine k_blk_here ?_
    | ((with_reducible refine k_blk_out ?hx ?_); (case hx => exact rfl))
    | with_reducible refine k_loop_ret ?_
    | with_reducible refine k_loop_exit ?_
    | (revert hF; (with_reducible refine idx1 ?hn ?_); (case hn => first | exact rfl | exact (List.length_map _) | assumption | omega | simp); intro x hx hF; conv => whnf)
    | ((with_reducible have hG := sub_fact hF); clear hF; (first | (refine sub_step hG (fun q hF => ?_)) | (refine subrow_step hG ?hn (fun q hF => ?_); (case hn => first | exact rfl | assumption | omega))); clear hG; conv => whnf)
    | ((with_reducible have hG := app_fact hF); clear hF; (first | ((refine app_row hG ?hn ?hs (fun q hF => ?_)); (case hn => first | exact rfl | assumption | omega); (case hs => exact rfl)) ); clear hG; conv => whnf)
    | ((refine row_all ?hn ?_); (case hn => first | exact rfl | (simp; done) | (simp; omega)); conv => whnf)
    | ((with_reducible refine le_step ?hn ?_); (case hn => first | exact rfl | assumption | omega); conv => whnf)
    | ((with_reducible have hG := setx_fact hF); clear hF; (refine setx_step hG ?hs (fun q hl hF => ?_)); (case hs => exact rfl); clear hG; conv => whnf)
    | (revert hF; (with_reducible refine dem_step ?_ ?_); (intro hl hF; conv => whnf); rotate_left; (intro hF; conv => whnf); rotate_right)
    | ((refine ⟨?hx, ?_⟩); (case hx => exact ⟨rfl, Nat.le_of_ble_eq_true rfl, rfl⟩); conv => whnf)
    | ((with_reducible refine ex_step ?_); conv => whnf)
    | ((with_reducible have hG := chk_fact hF); clear hF; (refine ⟨?hx, ?_⟩); (case hx => (first | exact of_decide_eq_true hG.1 | exact hG.1)); have hF := hG.2; clear hG; conv => whnf)
    | ((with_reducible refine both_T ?hx ?_); (case hx => first | exact rfl | assumption | exact notT (by assumption)); conv => whnf)
    | ((with_reducible refine both_F ?hx ?_); (case hx => first | exact rfl | assumption | exact notF (by assumption)); conv => whnf)
    | (revert hF; (with_reducible refine ite_step ?_ ?_) <;> (intro hc hF; conv => whnf))
    | ((with_reducible refine vc_condT ?hx ?_); (case hx => exact rfl))
    | ((with_reducible refine vc_condF ?hx ?_); (case hx => exact rfl))
    | (show retD _ _ _ _ _ _; conv => whnf)
    | ((refine inl_step ?ha ?hb ?hc rfl ?_); (case ha => exact rfl); (case hb => omega); (case hc => exact Nat.le_of_ble_eq_true rfl))
    | (show Kinl _ _ _ _ _ _ _; conv => whnf)
    | ((with_reducible refine kinl_step ?ha ?hb ?_); (case ha => exact rfl); (case hb => exact rfl); conv => whnf)
    | ((refine ⟨?hx, trivial⟩); (case hx => (cases hF; exact rfl)))
    | ((refine ⟨?hx, ?_⟩); (case hx => decide); conv => whnf)
    | ((with_reducible refine k_seq ?_))
    | (have hF : (none : Option _) = some _ := hF; cases hF))
end Go.Vc
namespace Go.Vc
open Go.Proofs
set_option linter.unusedVariables false
set_option linter.unnecessarySimpa false
set_option linter.unusedSimpArgs false
/- f18: tusche/tuscheref06.Worth -/
def f18_c14 (sum7 : Int) : Option (Int × Int) :=
 some (sum7, (0 : Int))
def Sf18_c14 : Ann := ⟨[7], [], [], []⟩
def Vf18_c14 (sum7 : Int) : List SV := [.dat (iN sum7)]
def Bf18_c14 (sum7 : Int) : List Blk := []
theorem Cf18_c14 {c : Ctx} {p nid : Nat} {a b : Code} {st : St} {K : Ex → St → Prop} {r : Int × Int} {g : _ → Option (Int × Int)} (hn : Nat.beq (nid * 1000 + firstRegion b) 14 = true) (hz : Sf18_c14.ok p = true)
    (h : g f18_c14 = some r → vc c p nid a st (Kseq (fun st' => st'.head Sf18_c14 fun v bl => ∃ x, (fun y : Int => f18_c14  y = some r) x ∧ v = (fun y : Int => Vf18_c14  y) x ∧ bl = (fun y : Int => Bf18_c14  y) x) K))
    (h2 : ∀ (sum7 : Int), f18_c14  sum7 = some r → vc c p nid b (St.mk' Sf18_c14 (Vf18_c14  sum7) (Bf18_c14  sum7)) K) (hF : joinK f18_c14 g = some r) : vc c p nid (.seq a b) st K :=
  vc_cut Sf18_c14 (fun y : Int => Vf18_c14  y) (fun y : Int => Bf18_c14  y) (fun y : Int => f18_c14  y = some r) hz (h hF) fun y hy => h2 y hy
theorem Zf18_c14 {K : Ex → St → Prop} {r : Int × Int} {sum7 : Int} {st st' : St} (hF : f18_c14  sum7 = some r) (h1 : st.norm Sf18_c14 = some st') (h2 : st'.cutOk Sf18_c14.keep Sf18_c14.bs (memB Sf18_c14.bs) = true) (h3 : vals Sf18_c14.keep st'.e = Vf18_c14  sum7) (h4 : blks Sf18_c14.bs st'.m = Bf18_c14  sum7) :
    Kseq (fun st' => st'.head Sf18_c14 fun v bl => ∃ x, (fun y : Int => f18_c14  y = some r) x ∧ v = (fun y : Int => Vf18_c14  y) x ∧ bl = (fun y : Int => Bf18_c14  y) x) K .normal st := by
  exact k_seq (head_in (I := (fun y : Int => f18_c14  y = some r)) (x := (sum7)) hF h1 h2 h3 h4)
def f18_8b (r8 : Int → Int → Option (Int × Int)) (a0 : Layout) (a1 : List Kind) (N : Nat) (k0 : Int → Option (Int × Int)) (sum7 : Int) (i8 : Int) : Option (Int × Int) :=
 bif decide (i8 < (List.length a0.Labels : Int)) then ((ix a0.Labels i8).bind fun x2 =>
 (ix a0.Labels i8).bind fun x3 =>
 (f51 N x2.W x3.H a1).bind fun x4 =>
 bif decide (x4 < (0 : Int)) then (some ((0 : Int), (13 : Int)))
 else (r8 (W (sum7 + x4)) (W (i8 + (1 : Int)))))
 else (k0 sum7)
def f18_8 (a0 : Layout) (a1 : List Kind) (N : Nat) (k0 : Int → Option (Int × Int)) : Nat → Int → Int → Option (Int × Int)
  | 0, _, _ => none
  | n + 1, sum7, i8 => f18_8b (f18_8 a0 a1 N k0 n) a0 a1 N k0 sum7 i8
def Sf18_8 : Ann := ⟨[1, 2, 7, 8], [0], [], []⟩
def Vf18_8 (a0 : Layout) (a1 : List Kind) (sum7 : Int) (i8 : Int) : List SV := [.dat (sl_Kind a1), .ptr 0 0, .dat (iN sum7), .dat (iN i8)]
def Bf18_8 (a0 : Layout) (a1 : List Kind) (sum7 : Int) (i8 : Int) : List Blk := [.box [.dat (iN a0.W), .dat (iN a0.H), .dat (sl_Label a0.Labels)]]
theorem Lf18_8 {c : Ctx} {p nid : Nat} {a : Code} {K : Ex → St → Prop} {r : Int × Int} {a0 : Layout} {a1 : List Kind} {N : Nat} {k0 : Int → Option (Int × Int)} {fu : Nat} {sum7 : Int} {i8 : Int} {st st' : St} (hz : Sf18_8.ok p = true) (h1 : st.norm Sf18_8 = some st') (h2 : st'.cutOk Sf18_8.keep Sf18_8.bs (memB Sf18_8.bs) = true) (h3 : vals Sf18_8.keep st'.e = Vf18_8 a0 a1 sum7 i8) (h4 : blks Sf18_8.bs st'.m = Bf18_8 a0 a1 sum7 i8)
    (h : ∀ (n : Nat) (sum7 : Int) (i8 : Int), f18_8b (f18_8 a0 a1 N k0 n) a0 a1 N k0 sum7 i8 = some r → vc c p nid a (St.mk' Sf18_8 (Vf18_8 a0 a1 sum7 i8) (Bf18_8 a0 a1 sum7 i8)) (Kloop Sf18_8 (fun y : Nat × Int × Int => Vf18_8 a0 a1 y.2.1 y.2.2) (fun y : Nat × Int × Int => Bf18_8 a0 a1 y.2.1 y.2.2) (fun y : Nat × Int × Int => f18_8 a0 a1 N k0 y.1 y.2.1 y.2.2 = some r) (fun y : Nat × Int × Int => y.1) (n + 1, sum7, i8) K)) (hF : f18_8 a0 a1 N k0 fu sum7 i8 = some r) : vc c p nid (.loop a) st K := by
  refine vc_loop Sf18_8 (fun y : Nat × Int × Int => Vf18_8 a0 a1 y.2.1 y.2.2) (fun y : Nat × Int × Int => Bf18_8 a0 a1 y.2.1 y.2.2) (fun y : Nat × Int × Int => f18_8 a0 a1 N k0 y.1 y.2.1 y.2.2 = some r) (fun y : Nat × Int × Int => y.1) hz (head_in (x := (fu, sum7, i8)) hF h1 h2 h3 h4) ?_
  rintro ⟨_ | n, sum7, i8⟩ hI
  · cases hI
  · exact h n sum7 i8 hI
theorem Mf18_8 {K : Ex → St → Prop} {r : Int × Int} {a0 : Layout} {a1 : List Kind} {N : Nat} {k0 : Int → Option (Int × Int)} {n : Nat} {sum7 : Int} {i8 : Int} {sum7_ : Int} {i8_ : Int} {st st' : St} (hF : f18_8 a0 a1 N k0 n sum7 i8 = some r) (h1 : st.norm Sf18_8 = some st') (h2 : st'.cutOk Sf18_8.keep Sf18_8.bs (memB Sf18_8.bs) = true) (h3 : vals Sf18_8.keep st'.e = Vf18_8 a0 a1 sum7 i8) (h4 : blks Sf18_8.bs st'.m = Bf18_8 a0 a1 sum7 i8) :
    Kloop Sf18_8 (fun y : Nat × Int × Int => Vf18_8 a0 a1 y.2.1 y.2.2) (fun y : Nat × Int × Int => Bf18_8 a0 a1 y.2.1 y.2.2) (fun y : Nat × Int × Int => f18_8 a0 a1 N k0 y.1 y.2.1 y.2.2 = some r) (fun y : Nat × Int × Int => y.1) (n + 1, sum7_, i8_) K .normal st := by
  exact head_back (y := (n, sum7, i8)) hF (Nat.lt_succ_self n) h1 h2 h3 h4
def f18_c4 (a0 : Layout) (a1 : List Kind) (N : Nat) (e6 : Int) : Option (Int × Int) :=
 bif decide (¬ e6 = (0 : Int)) then (some ((0 : Int), e6))
 else (joinK f18_c14 fun k0 =>
 f18_8 a0 a1 N k0 N (0 : Int) (0 : Int))
def Sf18_c4 : Ann := ⟨[1, 2, 6], [0], [], []⟩
def Vf18_c4 (a0 : Layout) (a1 : List Kind) (e6 : Int) : List SV := [.dat (sl_Kind a1), .ptr 0 0, .dat (iN e6)]
def Bf18_c4 (a0 : Layout) (a1 : List Kind) (e6 : Int) : List Blk := [.box [.dat (iN a0.W), .dat (iN a0.H), .dat (sl_Label a0.Labels)]]
theorem Cf18_c4 {c : Ctx} {p nid : Nat} {a b : Code} {st : St} {K : Ex → St → Prop} {r : Int × Int} {a0 : Layout} {a1 : List Kind} {N : Nat} {g : _ → Option (Int × Int)} (hn : Nat.beq (nid * 1000 + firstRegion b) 4 = true) (hz : Sf18_c4.ok p = true)
    (h : g (f18_c4 a0 a1 N) = some r → vc c p nid a st (Kseq (fun st' => st'.head Sf18_c4 fun v bl => ∃ x, (fun y : Int => f18_c4 a0 a1 N y = some r) x ∧ v = (fun y : Int => Vf18_c4 a0 a1 y) x ∧ bl = (fun y : Int => Bf18_c4 a0 a1 y) x) K))
    (h2 : ∀ (e6 : Int), f18_c4 a0 a1 N e6 = some r → vc c p nid b (St.mk' Sf18_c4 (Vf18_c4 a0 a1 e6) (Bf18_c4 a0 a1 e6)) K) (hF : joinK (f18_c4 a0 a1 N) g = some r) : vc c p nid (.seq a b) st K :=
  vc_cut Sf18_c4 (fun y : Int => Vf18_c4 a0 a1 y) (fun y : Int => Bf18_c4 a0 a1 y) (fun y : Int => f18_c4 a0 a1 N y = some r) hz (h hF) fun y hy => h2 y hy
theorem Zf18_c4 {K : Ex → St → Prop} {r : Int × Int} {a0 : Layout} {a1 : List Kind} {N : Nat} {e6 : Int} {st st' : St} (hF : f18_c4 a0 a1 N e6 = some r) (h1 : st.norm Sf18_c4 = some st') (h2 : st'.cutOk Sf18_c4.keep Sf18_c4.bs (memB Sf18_c4.bs) = true) (h3 : vals Sf18_c4.keep st'.e = Vf18_c4 a0 a1 e6) (h4 : blks Sf18_c4.bs st'.m = Bf18_c4 a0 a1 e6) :
    Kseq (fun st' => st'.head Sf18_c4 fun v bl => ∃ x, (fun y : Int => f18_c4 a0 a1 N y = some r) x ∧ v = (fun y : Int => Vf18_c4 a0 a1 y) x ∧ bl = (fun y : Int => Bf18_c4 a0 a1 y) x) K .normal st := by
  exact k_seq (head_in (I := (fun y : Int => f18_c4 a0 a1 N y = some r)) (x := (e6)) hF h1 h2 h3 h4)
def f18 (N : Nat) (a0 : Layout) (a1 : List Kind) : Option (Int × Int) :=
 (f21 N a0).bind fun x1 =>
 joinK (f18_c4 a0 a1 N) fun k1 =>
 bif decide (x1 = (0 : Int)) then ((f50 N a1).bind fun x5 =>
 k1 x5)
 else (k1 x1)
def G18 (ds : List D) (d : D) : Prop := ∃ (N : Nat) (a0 : Layout) (a1 : List Kind) (r : Int × Int), ds = [Layout.d a0, sl_Kind a1] ∧ f18 N a0 a1 = some r ∧ d = .tup [iN r.1, iN r.2]
theorem G18.step {N : Nat} {a0 : Layout} {a1 : List Kind} {ρ : Type} {A : (Int × Int) → Option ρ} {q : ρ} {ds : List D} {K : D → Prop} (hd : ds = [Layout.d a0, sl_Kind a1]) (h : ∀ r, A r = some q → K (.tup [iN r.1, iN r.2])) (hF : (f18 N a0 a1).bind A = some q) : ∃ d, G18 ds d ∧ K d := by
  obtain ⟨r, hr, hA⟩ := bind_some hF
  exact ⟨_, ⟨N, a0, a1, r, hd, hr, rfl⟩, h r hA⟩
set_option maxRecDepth 20000 in
set_option maxHeartbeats 4000000 in
theorem P18 : PureOK Try.prog 18 G18 := by
  refine pure_of_vc (c := mkCtx tyTree [(51, true, purePg [[0], [0], [3]] G51), (50, true, purePg [[3]] G50), (21, true, purePg [[0, 0, 4]] G21)]) rfl tyOK (ctx_cons (callable Try.func51 rfl rfl) P51 (ctx_cons (callable Try.func50 rfl rfl) P50 (ctx_cons (callable Try.func21 rfl rfl) P21 (ctx_nil)))) [[0], [0]] 2 Try.func18 rfl rfl (by decide) (by kernel_rfl) ?_
  rintro ds d ⟨N, a0, a1, r, rfl, hF, rfl⟩ hok
  clear hok
  refine ⟨rfl, ?_⟩
  show vc _ _ _ _ ⟨[(0, .dat (Layout.d a0)), (1, .dat (sl_Kind a1))], []⟩ _
  unfold f18 at hF
  repeat' (first
    | ((with_reducible refine q0 _ _ ?_); clear Q q0 q1 q2)
    | ((with_reducible refine q1 _ _ _ _ ?_); clear Q q0 q1 q2)
    | ((with_reducible refine q2 _ _ _ ?_); clear Q q0 q1 q2)
    | ((with_reducible refine seq_op ?hx (fun Q q0 q1 q2 => ?_)); (case hx => exact rfl); conv => whnf)
    | ((with_reducible refine draw_op ?hx (fun Q q0 q1 q2 => ?_)); (case hx => exact rfl); conv => whnf)
    | ((with_reducible refine seq_op0 ?hx (fun Q q0 q1 q2 => ?_)); (case hx => exact rfl); conv => whnf)
    | ((with_reducible refine draw_op0 ?hx (fun Q q0 q1 q2 => ?_)); (case hx => exact rfl); conv => whnf)
    | ((with_reducible refine seq_off ?hx ?_); (case hx => exact rfl))
    | ((with_reducible refine seq_off0 ?hx ?_); (case hx => exact rfl))
    | ((with_reducible refine draw_off ?hx ?_); (case hx => exact rfl))
    | ((with_reducible refine draw_off0 ?hx ?_); (case hx => exact rfl))
    | ((with_reducible refine seq_id ?_); (first | ((refine seq_opK rfl ?hy (fun Q q0 q1 q2 => ?_)); (case hy => first | assumption | exact notT (by assumption) | exact rfl); conv => whnf) | ((refine seq_offK rfl ?hy ?_); (case hy => first | assumption | exact notF (by assumption) | exact rfl)) | ((refine seq_opK0 rfl ?hy (fun Q q0 q1 q2 => ?_)); (case hy => first | assumption | exact notT (by assumption) | exact rfl); conv => whnf) | ((refine seq_offK0 rfl ?hy ?_); (case hy => first | assumption | exact notF (by assumption) | exact rfl)) | (revert hF; (with_reducible refine seq_opF ?hx ?_ ?_); (case hx => exact rfl); (intro hc hF Q q0 q1 q2; conv => whnf); rotate_left; (intro hc hF); rotate_right) | (revert hF; (with_reducible refine seq_opN ?hx ?_ ?_); (case hx => exact rfl); (intro hc hF); rotate_left; (intro hc hF Q q0 q1 q2; conv => whnf); rotate_right) | (revert hF; (with_reducible refine seq_opF0 ?hx ?_ ?_); (case hx => exact rfl); (intro hc hF Q q0 q1 q2; conv => whnf); rotate_left; (intro hc hF); rotate_right) | (revert hF; (with_reducible refine seq_opN0 ?hx ?_ ?_); (case hx => exact rfl); (intro hc hF); rotate_left; (intro hc hF Q q0 q1 q2; conv => whnf); rotate_right)))
    | ((with_reducible refine draw_id ?_); (first | ((refine draw_opK rfl ?hy (fun Q q0 q1 q2 => ?_)); (case hy => first | assumption | exact notT (by assumption) | exact rfl); conv => whnf) | ((refine draw_offK rfl ?hy ?_); (case hy => first | assumption | exact notF (by assumption) | exact rfl)) | ((refine draw_opK0 rfl ?hy (fun Q q0 q1 q2 => ?_)); (case hy => first | assumption | exact notT (by assumption) | exact rfl); conv => whnf) | ((refine draw_offK0 rfl ?hy ?_); (case hy => first | assumption | exact notF (by assumption) | exact rfl)) | (revert hF; (with_reducible refine draw_opF ?hx ?_ ?_); (case hx => exact rfl); (intro hc hF Q q0 q1 q2; conv => whnf); rotate_left; (intro hc hF); rotate_right) | (revert hF; (with_reducible refine draw_opN ?hx ?_ ?_); (case hx => exact rfl); (intro hc hF); rotate_left; (intro hc hF Q q0 q1 q2; conv => whnf); rotate_right) | (revert hF; (with_reducible refine draw_opF0 ?hx ?_ ?_); (case hx => exact rfl); (intro hc hF Q q0 q1 q2; conv => whnf); rotate_left; (intro hc hF); rotate_right) | (revert hF; (with_reducible refine draw_opN0 ?hx ?_ ?_); (case hx => exact rfl); (intro hc hF); rotate_left; (intro hc hF Q q0 q1 q2; conv => whnf); rotate_right)))
    | ((with_reducible refine cond_id ?_); (first | ((refine condKT rfl ?hy ?_); (case hy => first | assumption | exact notT (by assumption) | exact rfl)) | ((refine condKF rfl ?hy ?_); (case hy => first | assumption | exact notF (by assumption) | exact rfl)) | (revert hF; (with_reducible refine condF ?hx ?_ ?_); (case hx => exact rfl); all_goals (intro hc hF))))
    | ((with_reducible refine seq_nil ?_); (first | ((with_reducible refine hR _ ?_); clear R hR) | ((with_reducible refine hL _ ?_); clear L hL)))
    | ((with_reducible refine draw_nil ?_); (with_reducible refine hR _ _ ?hx ?_); (case hx => kernel_rfl); (first | clear R hR | clear hR))
    | ((with_reducible refine int_step ?_); conv => whnf)
    | ((with_reducible refine len_step ?_); conv => whnf)
    | ((with_reducible refine idx2 (by assumption) ?_); conv => whnf)
    | ((with_reducible refine idx3 (by assumption) ?_); conv => whnf)
    | with_reducible refine vc_block ?_
    | with_reducible refine vc_skip ?_
    | with_reducible refine vc_ret ?_
    | with_reducible refine vc_exit ?_
    | ((with_reducible refine vc_seqN [14, 4] ?hx ?_); (case hx => exact rfl))
    | (with_reducible refine vc_region (fun R hR => ?_))
    | ((with_reducible refine vc_draw ?hx (fun R hR => ?_)); (case hx => exact rfl))
    | fail
    | (revert hF; (refine Cf18_c14 rfl rfl ?_ ?_); (intro hF); rotate_left; (intro sum7 hF; unfold f18_c14 at hF); rotate_right)
    | exact Zf18_c14 hF rfl rfl rfl rfl
    | (revert hF; (refine Lf18_8 rfl rfl rfl rfl rfl ?_); intro n sum7 i8 hF; unfold f18_8b at hF)
    | exact Mf18_8 hF rfl rfl rfl rfl
    | (revert hF; (refine Cf18_c4 rfl rfl ?_ ?_); (intro hF); rotate_left; (intro e6 hF; unfold f18_c4 at hF); rotate_right)
    | exact Zf18_c4 hF rfl rfl rfl rfl
    | (revert hF; (with_reducible refine G21.step ?hx ?_); (case hx => exact rfl); intro v hF; conv => whnf)
    | (revert hF; (with_reducible refine G50.step ?hx ?_); (case hx => exact rfl); intro v hF; conv => whnf)
    | (revert hF; (with_reducible refine G51.step ?hx ?_); (case hx => exact rfl); intro v hF; conv => whnf)
    | with_reducible refine k_seq_ret ?_
    | with_reducible refine k_seq_exit ?_
    | with_reducible refine k_blk ?_
    | with_reducible refine k_blk_ret ?_
    | with_reducible refine k_blk_here ?_
    | ((with_reducible refine k_blk_out ?hx ?_); (case hx => exact rfl))
    | with_reducible refine k_loop_ret ?_
    | with_reducible refine k_loop_exit ?_
    | (revert hF; (with_reducible refine idx1 ?hn ?_); (case hn => first | exact rfl | exact (List.length_map _) | assumption | omega | simp); intro x hx hF; conv => whnf)
    | ((with_reducible have hG := sub_fact hF); clear hF; (first | (refine sub_step hG (fun q hF => ?_)) | (refine subrow_step hG ?hn (fun q hF => ?_); (case hn => first | exact rfl | assumption | omega))); clear hG; conv => whnf)
    | ((with_reducible have hG := app_fact hF); clear hF; (first | ((refine app_row hG ?hn ?hs (fun q hF => ?_)); (case hn => first | exact rfl | assumption | omega); (case hs => exact rfl)) ); clear hG; conv => whnf)
    | ((refine row_all ?hn ?_); (case hn => first | exact rfl | (simp; done) | (simp; omega)); conv => whnf)
    | ((with_reducible refine le_step ?hn ?_); (case hn => first | exact rfl | assumption | omega); conv => whnf)
    | ((with_reducible have hG := setx_fact hF); clear hF; (refine setx_step hG ?hs (fun q hl hF => ?_)); (case hs => exact rfl); clear hG; conv => whnf)
    | (revert hF; (with_reducible refine dem_step ?_ ?_); (intro hl hF; conv => whnf); rotate_left; (intro hF; conv => whnf); rotate_right)
    | ((refine ⟨?hx, ?_⟩); (case hx => exact ⟨rfl, Nat.le_of_ble_eq_true rfl, rfl⟩); conv => whnf)
    | ((with_reducible refine ex_step ?_); conv => whnf)
    | ((with_reducible have hG := chk_fact hF); clear hF; (refine ⟨?hx, ?_⟩); (case hx => (first | exact of_decide_eq_true hG.1 | exact hG.1)); have hF := hG.2; clear hG; conv => whnf)
    | ((with_reducible refine both_T ?hx ?_); (case hx => first | exact rfl | assumption | exact notT (by assumption)); conv => whnf)
    | ((with_reducible refine both_F ?hx ?_); (case hx => first | exact rfl | assumption | exact notF (by assumption)); conv => whnf)
    | (revert hF; (with_reducible refine ite_step ?_ ?_) <;> (intro hc hF; conv => whnf))
    | ((with_reducible refine vc_condT ?hx ?_); (case hx => exact rfl))
    | ((with_reducible refine vc_condF ?hx ?_); (case hx => exact rfl))
    | (show retD _ _ _ _ _ _; conv => whnf)
    | ((refine inl_step ?ha ?hb ?hc rfl ?_); (case ha => exact rfl); (case hb => omega); (case hc => exact Nat.le_of_ble_eq_true rfl))
    | (show Kinl _ _ _ _ _ _ _; conv => whnf)
    | ((with_reducible refine kinl_step ?ha ?hb ?_); (case ha => exact rfl); (case hb => exact rfl); conv => whnf)
    | ((refine ⟨?hx, trivial⟩); (case hx => (cases hF; exact rfl)))
    | ((refine ⟨?hx, ?_⟩); (case hx => decide); conv => whnf)
    | ((with_reducible refine k_seq ?_))
    | (have hF : (none : Option _) = some _ := hF; cases hF))
end Go.Vc
/-
  PLAIN LAWS OF CUT, 2: kinds, worths.
-/
namespace Go.Vc
set_option linter.unusedVariables false
set_option linter.unnecessarySimpa false
set_option linter.unusedSimpArgs false
set_option linter.unusedSimpArgs false

def okKind (k : Kind) : Bool := (decide (1 ≤ k.W) && decide (k.W ≤ 12)) && (decide (1 ≤ k.H) && decide (k.H ≤ 12)) && (decide (0 ≤ k.Value) && decide (k.Value ≤ 1000))
def kindsS (l : List Kind) : Int := if (l.length : Int) = 0 then 1 else if 6 < (l.length : Int) then 2 else bif l.any (fun k => !okKind k) then 3 else 0
theorem f71_eq {N : Nat} {k : Kind} : f71 N k = some (!okKind k) := by
  unfold f71 okKind
  simp only [f52_eq, Option.bind_some]
  cases (decide (1 ≤ k.W) && decide (k.W ≤ 12)) <;> cases (decide (1 ≤ k.H) && decide (k.H ≤ 12)) <;> cases (decide (0 ≤ k.Value) && decide (k.Value ≤ 1000)) <;> rfl
theorem f48_eq {N : Nat} {l : List Kind} (h : l.length ≤ 30) (hN : 30 < N) : f48 N l = some (kindsS l) := by
  have h2 : f48_i501_i502000102_2 l N f48_i501_i502000102_c7 N (0 : Int) = bif l.any (fun k => !okKind k) then some 3 else some 0 := by
    have := loopL (l := l) (F := fun n (_ : Unit) j => f48_i501_i502000102_2 l N f48_i501_i502000102_c7 n j) (g := fun i x (_ : Unit) c => bif (!okKind x) then some (3 : Int) else c ()) (k := fun _ => f48_i501_i502000102_c7)
      (fun n s j x hx => by
        have hi := (List.getElem?_eq_some_iff.1 hx).1
        simp only [f48_i501_i502000102_2, f48_i501_i502000102_2b, ix_nat, hx, Option.bind_some, decide_eq_true (show (j : Int) < (l.length : Int) by omega), cond_true, W_nat (show j < 9223372036854775807 by omega), f71_eq, decide_eq_true (show (0 : Int) ≤ (j : Int) by omega)])
      (fun n s => by simp [f48_i501_i502000102_2, f48_i501_i502000102_2b]) N () (by omega)
    exact this.trans (any_fold _ _)
  unfold f48 kindsS
  simp only [joinK, h2]
  by_cases c1 : (l.length : Int) = 0
  · simp [c1]
  · by_cases c2 : 6 < (l.length : Int)
    · rw [if_neg c1, if_pos c2, decide_eq_false c1, decide_eq_true c2]; rfl
    · simp only [c1, c2, decide_false, cond_false, if_false]
      cases l.any (fun k => !okKind k) <;> rfl
theorem f50_eq {N : Nat} {l : List Kind} (h : l.length ≤ 30) (hN : 30 < N) : f50 N l = some (kindsS l) := by
  have h2 : f50_6 l N f50_c11 N (0 : Int) = bif l.any (fun k => !okKind k) then some 3 else some 0 := by
    have := loopL (l := l) (F := fun n (_ : Unit) j => f50_6 l N f50_c11 n j) (g := fun i x (_ : Unit) c => bif (!okKind x) then some (3 : Int) else c ()) (k := fun _ => f50_c11)
      (fun n s j x hx => by
        have hi := (List.getElem?_eq_some_iff.1 hx).1
        simp only [f50_6, f50_6b, ix_nat, hx, Option.bind_some, decide_eq_true (show (j : Int) < (l.length : Int) by omega), cond_true, W_nat (show j < 9223372036854775807 by omega), f56_eq, okKind]
        cases (decide (1 ≤ x.W) && decide (x.W ≤ 12)) <;> cases (decide (1 ≤ x.H) && decide (x.H ≤ 12)) <;> cases (decide (0 ≤ x.Value) && decide (x.Value ≤ 1000)) <;> rfl)
      (fun n s => by simp [f50_6, f50_6b]) N () (by omega)
    exact this.trans (any_fold _ _)
  unfold f50 kindsS
  simp only [joinK, h2]
  by_cases c1 : (l.length : Int) = 0
  · simp [c1]
  · by_cases c2 : 6 < (l.length : Int)
    · rw [if_neg c1, if_pos c2, decide_eq_false c1, decide_eq_true c2]; rfl
    · simp only [c1, c2, decide_false, cond_false, if_false]
      cases l.any (fun k => !okKind k) <;> rfl
/-- the greatest Value of a kind of a size, from a start on -/
def bestV (w h : Int) : List Kind → Int → Int
  | [], o => o
  | k :: r, o => if k.W = w ∧ k.H = h then bestV w h r (max o k.Value) else bestV w h r o
def hasV (w h : Int) (l : List Kind) : Bool := l.any fun k => decide (k.W = w) && decide (k.H = h)
theorem f49_fold {k : Int → Bool → Option (Int × Bool)} {w h : Int} : ∀ (l : List Kind) (i : Nat) (o : Int) (b : Bool),
    foldK (fun _ (x : Kind) (s : Int × Bool) c => if x.W = w ∧ x.H = h then c (max s.1 x.Value, true) else c s) (fun s => k s.1 s.2) i l (o, b) = k (bestV w h l o) (b || hasV w h l)
  | [], i, o, b => by simp [foldK, bestV, hasV]
  | x :: r, i, o, b => by
    simp only [foldK, bestV, hasV, List.any_cons]
    by_cases c : x.W = w ∧ x.H = h
    · simp only [c, and_self, if_true]
      rw [f49_fold r (i + 1)]
      simp [c]
    · simp only [c, if_false]
      rw [f49_fold r (i + 1)]
      have : (decide (x.W = w) && decide (x.H = h)) = false := by simpa using c
      rw [this, Bool.false_or]; rfl
theorem f49_eq {N : Nat} {w h : Int} {l : List Kind} (hl : l.length ≤ 30) (hN : 30 < N) : f49 N w h l = some (bestV w h l 0, hasV w h l) := by
  show f49_3 w h l f49_c8 N (0 : Int) false (0 : Int) = _
  have := loopL (l := l) (F := fun n (s : Int × Bool) j => f49_3 w h l f49_c8 n s.1 s.2 j) (g := fun _ (x : Kind) (s : Int × Bool) c => if x.W = w ∧ x.H = h then c (max s.1 x.Value, true) else c s) (k := fun s => f49_c8 s.1 s.2)
    (fun n s j x hx => by
      have hi := (List.getElem?_eq_some_iff.1 hx).1
      simp only [f49_3, f49_3b, ix_nat, hx, Option.bind_some, decide_eq_true (show (j : Int) < (l.length : Int) by omega), cond_true, W_nat (show j < 9223372036854775807 by omega)]
      by_cases c1 : x.W = w <;> by_cases c2 : x.H = h <;> simp [c1, c2])
    (fun n s => by simp [f49_3, f49_3b]) N (0, false) (by omega)
  refine this.trans ?_
  rw [f49_fold]
  simp [f49_c8]
theorem f51_fold {k : Int → Option Int} {w h : Int} : ∀ (l : List Kind) (i : Nat) (o : Int),
    foldK (fun _ (x : Kind) (s : Int) c => if x.W = w ∧ x.H = h then c (max s x.Value) else c s) k i l o = k (bestV w h l o)
  | [], i, o => by simp [foldK, bestV]
  | x :: r, i, o => by
    simp only [foldK, bestV]
    by_cases c : x.W = w ∧ x.H = h
    · simp only [c, and_self, if_true]; exact f51_fold r (i + 1) _
    · simp only [c, if_false]; exact f51_fold r (i + 1) _
theorem f51_eq {N : Nat} {w h : Int} {l : List Kind} (hl : l.length ≤ 30) (hN : 30 < N) : f51 N w h l = some (bestV w h l (-1)) := by
  show f51_3 w h l f51_c7 N (-1 : Int) (0 : Int) = _
  have := loopL (l := l) (F := fun n (s : Int) j => f51_3 w h l f51_c7 n s j) (g := fun _ (x : Kind) (s : Int) c => if x.W = w ∧ x.H = h then c (max s x.Value) else c s) (k := f51_c7)
    (fun n s j x hx => by
      have hi := (List.getElem?_eq_some_iff.1 hx).1
      simp only [f51_3, f51_3b, ix_nat, hx, Option.bind_some, decide_eq_true (show (j : Int) < (l.length : Int) by omega), cond_true, W_nat (show j < 9223372036854775807 by omega)]
      by_cases c1 : x.W = w <;> by_cases c2 : x.H = h <;> simp [c1, c2])
    (fun n s => by simp [f51_3, f51_3b]) N (-1) (by omega)
  refine this.trans ?_
  rw [f51_fold]
  simp [f51_c7]
theorem bestV_le {w h : Int} : ∀ (l : List Kind) (o : Int), o ≤ bestV w h l o
  | [], o => Int.le_refl _
  | k :: r, o => by
    simp only [bestV]
    split
    · exact Int.le_trans (Int.le_max_left _ _) (bestV_le r _)
    · exact bestV_le r o
theorem bestV_ub {w h : Int} : ∀ (l : List Kind) (o : Int), (∀ k, k ∈ l → okKind k = true) → o ≤ 1000 → bestV w h l o ≤ 1000
  | [], o, _, ho => ho
  | k :: r, o, hk, ho => by
    simp only [bestV]
    have := hk k (by simp)
    simp only [okKind, Bool.and_eq_true, decide_eq_true_eq] at this
    split
    · exact bestV_ub r _ (fun k hk' => hk k (by simp [hk'])) (by omega)
    · exact bestV_ub r _ (fun k hk' => hk k (by simp [hk'])) ho
/-- with good kinds: the two starts agree where there is a kind of the size -/
theorem bestV_neg {w h : Int} : ∀ (l : List Kind), (∀ k, k ∈ l → okKind k = true) → bestV w h l (-1) = bif hasV w h l then bestV w h l 0 else -1
  | [], _ => by simp [bestV, hasV]
  | k :: r, hk => by
    have h1 := hk k (by simp)
    simp only [okKind, Bool.and_eq_true, decide_eq_true_eq] at h1
    simp only [bestV, hasV, List.any_cons]
    by_cases c : k.W = w ∧ k.H = h
    · have e1 : max (-1) k.Value = k.Value := by omega
      have e2 : max 0 k.Value = k.Value := by omega
      simp [c, e1, e2]
    · have : (decide (k.W = w) && decide (k.H = h)) = false := by simpa using c
      rw [this, Bool.false_or, if_neg c, if_neg c]
      exact bestV_neg r fun k hk' => hk k (by simp [hk'])
/-- what labels are worth -/
def worthL (ks : List Kind) : List Label → Int → Option Int
  | [], s => some s
  | x :: r, s => bif hasV x.W x.H ks then worthL ks r (W (s + bestV x.W x.H ks 0)) else none
def worthR : Option Int → Int × Int
  | some s => (s, 0)
  | none => (0, 13)
def worthS (a : Layout) (ks : List Kind) : Int × Int :=
  if checkS a = 0 then (if kindsS ks = 0 then worthR (worthL ks a.Labels 0) else (0, kindsS ks)) else (0, checkS a)
theorem worth_fold {ks : List Kind} : ∀ (l : List Label) (i : Nat) (s : Int),
    foldK (fun _ (x : Label) (s : Int) c => bif hasV x.W x.H ks then c (W (s + bestV x.W x.H ks 0)) else some ((0 : Int), (13 : Int))) (fun s => some (s, (0 : Int))) i l s = some (worthR (worthL ks l s))
  | [], i, s => rfl
  | x :: r, i, s => by
    simp only [foldK, worthL]
    cases hasV x.W x.H ks with
    | true => exact worth_fold r (i + 1) _
    | false => rfl
theorem kindsS_ok {ks : List Kind} (h : kindsS ks = 0) : ∀ k, k ∈ ks → okKind k = true := by
  unfold kindsS at h
  split at h
  · cases h
  · split at h
    · cases h
    · cases hh : ks.any (fun k => !okKind k) with
      | true => rw [hh] at h; cases h
      | false =>
        intro k hk
        have := List.any_eq_false.1 hh k hk
        simpa using this
theorem f17_eq {N : Nat} {a : Layout} {ks : List Kind} (h : a.Labels.length ≤ 30) (hk : ks.length ≤ 30) (hN : 30 < N) : f17 N a ks = some (worthS a ks) := by
  have h8 : f17_8 a ks N f17_c15 N (0 : Int) (0 : Int) = some (worthR (worthL ks a.Labels 0)) := by
    have := loopL (l := a.Labels) (F := fun n (s : Int) j => f17_8 a ks N f17_c15 n s j) (g := fun _ (x : Label) (s : Int) c => bif hasV x.W x.H ks then c (W (s + bestV x.W x.H ks 0)) else some ((0 : Int), (13 : Int))) (k := f17_c15)
      (fun n s j x hx => by
        have hi := (List.getElem?_eq_some_iff.1 hx).1
        simp only [f17_8, f17_8b, ix_nat, hx, Option.bind_some, decide_eq_true (show (j : Int) < (a.Labels.length : Int) by omega), cond_true, W_nat (show j < 9223372036854775807 by omega), f49_eq hk hN]
        cases hasV x.W x.H ks <;> rfl)
      (fun n s => by simp [f17_8, f17_8b]) N 0 (by omega)
    exact this.trans (worth_fold _ _ _)
  unfold f17 worthS
  simp only [f20_eq h hN, f48_eq hk hN, Option.bind_some, joinK, f17_c4, h8]
  by_cases c1 : checkS a = 0
  · by_cases c2 : kindsS ks = 0 <;> simp [c1, c2]
  · simp [c1]
theorem f18_eq {N : Nat} {a : Layout} {ks : List Kind} (h : a.Labels.length ≤ 30) (hk : ks.length ≤ 30) (hN : 30 < N) : f18 N a ks = some (worthS a ks) := by
  have h8 : kindsS ks = 0 → f18_8 a ks N f18_c14 N (0 : Int) (0 : Int) = some (worthR (worthL ks a.Labels 0)) := by
    intro hok
    have hok := kindsS_ok hok
    have := loopL (l := a.Labels) (F := fun n (s : Int) j => f18_8 a ks N f18_c14 n s j) (g := fun _ (x : Label) (s : Int) c => bif hasV x.W x.H ks then c (W (s + bestV x.W x.H ks 0)) else some ((0 : Int), (13 : Int))) (k := f18_c14)
      (fun n s j x hx => by
        have hi := (List.getElem?_eq_some_iff.1 hx).1
        simp only [f18_8, f18_8b, ix_nat, hx, Option.bind_some, decide_eq_true (show (j : Int) < (a.Labels.length : Int) by omega), cond_true, W_nat (show j < 9223372036854775807 by omega), f51_eq hk hN, bestV_neg ks hok]
        cases hv : hasV x.W x.H ks with
        | false => rfl
        | true =>
          have := bestV_le (w := x.W) (h := x.H) ks 0
          simp [show ¬ bestV x.W x.H ks 0 < 0 by omega])
      (fun n s => by simp [f18_8, f18_8b]) N 0 (by omega)
    exact this.trans (worth_fold _ _ _)
  unfold f18 worthS
  simp only [f21_eq h hN, f50_eq hk hN, Option.bind_some, joinK, f18_c4]
  by_cases c1 : checkS a = 0
  · by_cases c2 : kindsS ks = 0
    · simp [c1, c2, h8 c2]
    · simp [c1, c2]
  · simp [c1]
end Go.Vc
namespace Go.Vc
open Go.Proofs
set_option linter.unusedVariables false
set_option linter.unnecessarySimpa false
set_option linter.unusedSimpArgs false
/- f16: tusche/tuscheref06.Cuts -/
def f16 (N : Nat) (a0 : Layout) : Option ((List Cut) × Int) :=
 (f21 N a0).bind fun x1 =>
 bif decide (¬ x1 = (0 : Int)) then (some ([], x1))
 else ((f47 N a0).bind fun x2 =>
 (f46 N a0.Labels x2).bind fun x3 =>
 some (x3, (0 : Int)))
def G16 (ds : List D) (d : D) : Prop := ∃ (N : Nat) (a0 : Layout) (r : (List Cut) × Int), ds = [Layout.d a0] ∧ f16 N a0 = some r ∧ d = .tup [sl_Cut r.1, iN r.2]
theorem G16.step {N : Nat} {a0 : Layout} {ρ : Type} {A : ((List Cut) × Int) → Option ρ} {q : ρ} {ds : List D} {K : D → Prop} (hd : ds = [Layout.d a0]) (h : ∀ r, A r = some q → K (.tup [sl_Cut r.1, iN r.2])) (hF : (f16 N a0).bind A = some q) : ∃ d, G16 ds d ∧ K d := by
  obtain ⟨r, hr, hA⟩ := bind_some hF
  exact ⟨_, ⟨N, a0, r, hd, hr, rfl⟩, h r hA⟩
set_option maxRecDepth 20000 in
set_option maxHeartbeats 4000000 in
theorem P16 : PureOK Try.prog 16 G16 := by
  refine pure_of_vc (c := mkCtx tyTree [(47, true, purePg [[0, 0, 4]] G47), (46, true, purePg [[4], [0, 0, 0, 0]] G46), (21, true, purePg [[0, 0, 4]] G21)]) rfl tyOK (ctx_cons (callable Try.func47 rfl rfl) P47 (ctx_cons (callable Try.func46 rfl rfl) P46 (ctx_cons (callable Try.func21 rfl rfl) P21 (ctx_nil)))) [[2], [0]] 1 Try.func16 rfl rfl (by decide) (by kernel_rfl) ?_
  rintro ds d ⟨N, a0, r, rfl, hF, rfl⟩ hok
  clear hok
  refine ⟨rfl, ?_⟩
  show vc _ _ _ _ ⟨[(0, .dat (Layout.d a0))], []⟩ _
  unfold f16 at hF
  repeat' (first
    | ((with_reducible refine q0 _ _ ?_); clear Q q0 q1 q2)
    | ((with_reducible refine q1 _ _ _ _ ?_); clear Q q0 q1 q2)
    | ((with_reducible refine q2 _ _ _ ?_); clear Q q0 q1 q2)
    | ((with_reducible refine seq_op ?hx (fun Q q0 q1 q2 => ?_)); (case hx => exact rfl); conv => whnf)
    | ((with_reducible refine draw_op ?hx (fun Q q0 q1 q2 => ?_)); (case hx => exact rfl); conv => whnf)
    | ((with_reducible refine seq_op0 ?hx (fun Q q0 q1 q2 => ?_)); (case hx => exact rfl); conv => whnf)
    | ((with_reducible refine draw_op0 ?hx (fun Q q0 q1 q2 => ?_)); (case hx => exact rfl); conv => whnf)
    | ((with_reducible refine seq_off ?hx ?_); (case hx => exact rfl))
    | ((with_reducible refine seq_off0 ?hx ?_); (case hx => exact rfl))
    | ((with_reducible refine draw_off ?hx ?_); (case hx => exact rfl))
    | ((with_reducible refine draw_off0 ?hx ?_); (case hx => exact rfl))
    | ((with_reducible refine seq_id ?_); (first | ((refine seq_opK rfl ?hy (fun Q q0 q1 q2 => ?_)); (case hy => first | assumption | exact notT (by assumption) | exact rfl); conv => whnf) | ((refine seq_offK rfl ?hy ?_); (case hy => first | assumption | exact notF (by assumption) | exact rfl)) | ((refine seq_opK0 rfl ?hy (fun Q q0 q1 q2 => ?_)); (case hy => first | assumption | exact notT (by assumption) | exact rfl); conv => whnf) | ((refine seq_offK0 rfl ?hy ?_); (case hy => first | assumption | exact notF (by assumption) | exact rfl)) | (revert hF; (with_reducible refine seq_opF ?hx ?_ ?_); (case hx => exact rfl); (intro hc hF Q q0 q1 q2; conv => whnf); rotate_left; (intro hc hF); rotate_right) | (revert hF; (with_reducible refine seq_opN ?hx ?_ ?_); (case hx => exact rfl); (intro hc hF); rotate_left; (intro hc hF Q q0 q1 q2; conv => whnf); rotate_right) | (revert hF; (with_reducible refine seq_opF0 ?hx ?_ ?_); (case hx => exact rfl); (intro hc hF Q q0 q1 q2; conv => whnf); rotate_left; (intro hc hF); rotate_right) | (revert hF; (with_reducible refine seq_opN0 ?hx ?_ ?_); (case hx => exact rfl); (intro hc hF); rotate_left; (intro hc hF Q q0 q1 q2; conv => whnf); rotate_right)))
    | ((with_reducible refine draw_id ?_); (first | ((refine draw_opK rfl ?hy (fun Q q0 q1 q2 => ?_)); (case hy => first | assumption | exact notT (by assumption) | exact rfl); conv => whnf) | ((refine draw_offK rfl ?hy ?_); (case hy => first | assumption | exact notF (by assumption) | exact rfl)) | ((refine draw_opK0 rfl ?hy (fun Q q0 q1 q2 => ?_)); (case hy => first | assumption | exact notT (by assumption) | exact rfl); conv => whnf) | ((refine draw_offK0 rfl ?hy ?_); (case hy => first | assumption | exact notF (by assumption) | exact rfl)) | (revert hF; (with_reducible refine draw_opF ?hx ?_ ?_); (case hx => exact rfl); (intro hc hF Q q0 q1 q2; conv => whnf); rotate_left; (intro hc hF); rotate_right) | (revert hF; (with_reducible refine draw_opN ?hx ?_ ?_); (case hx => exact rfl); (intro hc hF); rotate_left; (intro hc hF Q q0 q1 q2; conv => whnf); rotate_right) | (revert hF; (with_reducible refine draw_opF0 ?hx ?_ ?_); (case hx => exact rfl); (intro hc hF Q q0 q1 q2; conv => whnf); rotate_left; (intro hc hF); rotate_right) | (revert hF; (with_reducible refine draw_opN0 ?hx ?_ ?_); (case hx => exact rfl); (intro hc hF); rotate_left; (intro hc hF Q q0 q1 q2; conv => whnf); rotate_right)))
    | ((with_reducible refine cond_id ?_); (first | ((refine condKT rfl ?hy ?_); (case hy => first | assumption | exact notT (by assumption) | exact rfl)) | ((refine condKF rfl ?hy ?_); (case hy => first | assumption | exact notF (by assumption) | exact rfl)) | (revert hF; (with_reducible refine condF ?hx ?_ ?_); (case hx => exact rfl); all_goals (intro hc hF))))
    | ((with_reducible refine seq_nil ?_); (first | ((with_reducible refine hR _ ?_); clear R hR) | ((with_reducible refine hL _ ?_); clear L hL)))
    | ((with_reducible refine draw_nil ?_); (with_reducible refine hR _ _ ?hx ?_); (case hx => kernel_rfl); (first | clear R hR | clear hR))
    | ((with_reducible refine int_step ?_); conv => whnf)
    | ((with_reducible refine len_step ?_); conv => whnf)
    | ((with_reducible refine idx2 (by assumption) ?_); conv => whnf)
    | ((with_reducible refine idx3 (by assumption) ?_); conv => whnf)
    | with_reducible refine vc_block ?_
    | with_reducible refine vc_skip ?_
    | with_reducible refine vc_ret ?_
    | with_reducible refine vc_exit ?_
    | ((with_reducible refine vc_seqN [] ?hx ?_); (case hx => exact rfl))
    | (with_reducible refine vc_region (fun R hR => ?_))
    | ((with_reducible refine vc_draw ?hx (fun R hR => ?_)); (case hx => exact rfl))
    | fail
    | (revert hF; (with_reducible refine G21.step ?hx ?_); (case hx => exact rfl); intro v hF; conv => whnf)
    | (revert hF; (with_reducible refine G46.step ?hx ?_); (case hx => exact rfl); intro v hF; conv => whnf)
    | (revert hF; (with_reducible refine G47.step ?hx ?_); (case hx => exact rfl); intro v hF; conv => whnf)
    | with_reducible refine k_seq_ret ?_
    | with_reducible refine k_seq_exit ?_
    | with_reducible refine k_blk ?_
    | with_reducible refine k_blk_ret ?_
    | with_reducible refine k_blk_here ?_
    | ((with_reducible refine k_blk_out ?hx ?_); (case hx => exact rfl))
    | with_reducible refine k_loop_ret ?_
    | with_reducible refine k_loop_exit ?_
    | (revert hF; (with_reducible refine idx1 ?hn ?_); (case hn => first | exact rfl | exact (List.length_map _) | assumption | omega | simp); intro x hx hF; conv => whnf)
    | ((with_reducible have hG := sub_fact hF); clear hF; (first | (refine sub_step hG (fun q hF => ?_)) | (refine subrow_step hG ?hn (fun q hF => ?_); (case hn => first | exact rfl | assumption | omega))); clear hG; conv => whnf)
    | ((with_reducible have hG := app_fact hF); clear hF; (first | ((refine app_row hG ?hn ?hs (fun q hF => ?_)); (case hn => first | exact rfl | assumption | omega); (case hs => exact rfl)) ); clear hG; conv => whnf)
    | ((refine row_all ?hn ?_); (case hn => first | exact rfl | (simp; done) | (simp; omega)); conv => whnf)
    | ((with_reducible refine le_step ?hn ?_); (case hn => first | exact rfl | assumption | omega); conv => whnf)
    | ((with_reducible have hG := setx_fact hF); clear hF; (refine setx_step hG ?hs (fun q hl hF => ?_)); (case hs => exact rfl); clear hG; conv => whnf)
    | (revert hF; (with_reducible refine dem_step ?_ ?_); (intro hl hF; conv => whnf); rotate_left; (intro hF; conv => whnf); rotate_right)
    | ((refine ⟨?hx, ?_⟩); (case hx => exact ⟨rfl, Nat.le_of_ble_eq_true rfl, rfl⟩); conv => whnf)
    | ((with_reducible refine ex_step ?_); conv => whnf)
    | ((with_reducible have hG := chk_fact hF); clear hF; (refine ⟨?hx, ?_⟩); (case hx => (first | exact of_decide_eq_true hG.1 | exact hG.1)); have hF := hG.2; clear hG; conv => whnf)
    | ((with_reducible refine both_T ?hx ?_); (case hx => first | exact rfl | assumption | exact notT (by assumption)); conv => whnf)
    | ((with_reducible refine both_F ?hx ?_); (case hx => first | exact rfl | assumption | exact notF (by assumption)); conv => whnf)
    | (revert hF; (with_reducible refine ite_step ?_ ?_) <;> (intro hc hF; conv => whnf))
    | ((with_reducible refine vc_condT ?hx ?_); (case hx => exact rfl))
    | ((with_reducible refine vc_condF ?hx ?_); (case hx => exact rfl))
    | (show retD _ _ _ _ _ _; conv => whnf)
    | ((refine inl_step ?ha ?hb ?hc rfl ?_); (case ha => exact rfl); (case hb => omega); (case hc => exact Nat.le_of_ble_eq_true rfl))
    | (show Kinl _ _ _ _ _ _ _; conv => whnf)
    | ((with_reducible refine kinl_step ?ha ?hb ?_); (case ha => exact rfl); (case hb => exact rfl); conv => whnf)
    | ((refine ⟨?hx, trivial⟩); (case hx => (cases hF; exact rfl)))
    | ((refine ⟨?hx, ?_⟩); (case hx => decide); conv => whnf)
    | ((with_reducible refine k_seq ?_))
    | (have hF : (none : Option _) = some _ := hF; cases hF))
end Go.Vc
/-
  PLAIN LAWS OF CUT, 3: cuts of pieces.
-/
namespace Go.Vc
set_option linter.unusedVariables false
set_option linter.unnecessarySimpa false
set_option linter.unusedSimpArgs false
set_option linter.unusedSimpArgs false

/-- a label with sides, in a piece -/
structure Fits (p x : Label) : Prop where
  w : 1 ≤ x.W
  h : 1 ≤ x.H
  x0 : p.X ≤ x.X
  y0 : p.Y ≤ x.Y
  x1 : x.X + x.W ≤ p.X + p.W
  y1 : x.Y + x.H ≤ p.Y + p.H
/-- a piece of a sheet -/
structure Small (p : Label) : Prop where
  x0 : 0 ≤ p.X
  y0 : 0 ≤ p.Y
  x1 : p.X + p.W ≤ 12
  y1 : p.Y + p.H ≤ 12
  w : 0 ≤ p.W
  h : 0 ≤ p.H
def lo (c : Cut) (x : Label) : Int := bif c.Up then x.X else x.Y
def hi (c : Cut) (x : Label) : Int := bif c.Up then x.X + x.W else x.Y + x.H
def before (c : Cut) (x : Label) : Bool := decide (hi c x ≤ c.At)
def behind (c : Cut) (x : Label) : Bool := decide (c.At ≤ lo c x)
def inner (c : Cut) (p : Label) : Bool := decide (lo c p + 1 ≤ c.At) && decide (c.At ≤ hi c p - 1)
def isCut (p : Label) (l : List Label) (c : Cut) : Bool := inner c p && (l.all (fun x => before c x || behind c x) && (l.any (before c) && l.any (fun x => !before c x)))
def half1 (p : Label) (c : Cut) : Label := bif c.Up then ⟨p.X, p.Y, c.At - p.X, p.H⟩ else ⟨p.X, p.Y, p.W, c.At - p.Y⟩
def half2 (p : Label) (c : Cut) : Label := bif c.Up then ⟨c.At, p.Y, p.X + p.W - c.At, p.H⟩ else ⟨p.X, c.At, p.W, p.Y + p.H - c.At⟩

theorem before_iff {c : Cut} {x : Label} : before c x = true ↔ hi c x ≤ c.At := by unfold before; exact decide_eq_true_iff
theorem behind_iff {c : Cut} {x : Label} : behind c x = true ↔ c.At ≤ lo c x := by unfold behind; exact decide_eq_true_iff
theorem before_not {c : Cut} {x : Label} : before c x = false ↔ ¬ hi c x ≤ c.At := by unfold before; exact decide_eq_false_iff_not
theorem W_in {n : Int} (h : -1000000 ≤ n) (h2 : n ≤ 1000000) : W n = n := W_of (by omega) (by omega)
theorem lt_hi {p x : Label} (h : Fits p x) (c : Cut) : lo c x < hi c x := by
  unfold lo hi; have := h.w; have := h.h; cases c.Up <;> simp only [cond_true, cond_false] <;> omega
theorem not_both {p x : Label} (h : Fits p x) {c : Cut} (hb : before c x = true) : behind c x = false := by
  have := lt_hi h c
  simp only [before, behind, decide_eq_true_eq, decide_eq_false_iff_not] at *; omega

theorem isCut_perm {p : Label} {l l' : List Label} (h : l.Perm l') (c : Cut) : isCut p l c = isCut p l' c := by
  unfold isCut
  rw [h.all_eq, h.any_eq, h.any_eq]

/-! divide -/
theorem set_swap_perm {α : Type} {l : List α} {i j : Nat} {x y : α} (hi : l[i]? = some x) (hj : l[j]? = some y) : ((l.set i y).set j x).Perm l := by
  obtain ⟨hi', rfl⟩ := List.getElem?_eq_some_iff.1 hi
  obtain ⟨hj', rfl⟩ := List.getElem?_eq_some_iff.1 hj
  have h := Array.swap_perm (xs := l.toArray) (i := i) (j := j) (by simpa using hi') (by simpa using hj')
  have h2 := Array.perm_iff_toList_perm.1 h
  simpa [Array.swap_def] using h2
structure DivInv (c : Cut) (l : List Label) (i : Nat) (s : List Label × Nat) : Prop where
  perm : s.1.Perm l
  ni : s.2 ≤ i
  il : i ≤ l.length
  rest : ∀ j, i ≤ j → s.1[j]? = l[j]?
  bef : ∀ (j : Nat) x, j < s.2 → s.1[j]? = some x → before c x = true
  aft : ∀ (j : Nat) x, s.2 ≤ j → j < i → s.1[j]? = some x → before c x = false ∧ behind c x = true
theorem DivInv.init {c : Cut} {l : List Label} : DivInv c l 0 (l, 0) := ⟨.refl _, Nat.le_refl _, Nat.zero_le _, fun _ _ => rfl, fun j x h => by omega, fun j x h h' => by omega⟩
theorem DivInv.step_aft {c : Cut} {l : List Label} {i : Nat} {s : List Label × Nat} (h : DivInv c l i s) {x : Label} (hx : l[i]? = some x) (hb : before c x = false) (hb' : behind c x = true) : DivInv c l (i + 1) s :=
  { perm := h.perm, ni := by have := h.ni; omega, il := (List.getElem?_eq_some_iff.1 hx).1, rest := fun j hj => h.rest j (by omega), bef := h.bef,
    aft := fun j y hj hj' hy => by
      by_cases he : j = i
      · subst he
        rw [h.rest j (Nat.le_refl _), hx] at hy
        cases hy; exact ⟨hb, hb'⟩
      · exact h.aft j y hj (by omega) hy }
theorem DivInv.step_bef {c : Cut} {l : List Label} {i : Nat} {s : List Label × Nat} (h : DivInv c l i s) {x y : Label} (hx : l[i]? = some x) (hy : s.1[s.2]? = some y) (hb : before c x = true) : DivInv c l (i + 1) ((s.1.set i y).set s.2 x, s.2 + 1) := by
  have hxi : s.1[i]? = some x := by rw [h.rest i (Nat.le_refl _), hx]
  have hil := (List.getElem?_eq_some_iff.1 hxi).1
  have hnl := (List.getElem?_eq_some_iff.1 hy).1
  have hni := h.ni
  refine { perm := (set_swap_perm hxi hy).trans h.perm, ni := by simp only; omega, il := (List.getElem?_eq_some_iff.1 hx).1, rest := fun j hj => ?_, bef := fun j z hj hz => ?_, aft := fun j z hj hj' hz => ?_ }
  · simp only [List.getElem?_set, List.length_set]
    rw [if_neg (by omega), if_neg (by omega)]
    exact h.rest j (by omega)
  · simp only [List.getElem?_set, List.length_set] at hz
    by_cases he : s.2 = j
    · rw [if_pos he, if_pos hnl] at hz; cases hz; exact hb
    · rw [if_neg he, if_neg (by simp only at hj; omega)] at hz
      exact h.bef j z (by simp only at hj; omega) hz
  · simp only [List.getElem?_set, List.length_set] at hz
    simp only at hj
    rw [if_neg (by omega)] at hz
    by_cases he : i = j
    · rw [if_pos he, if_pos hil] at hz
      cases hz
      exact h.aft s.2 y (Nat.le_refl _) (by omega) hy
    · rw [if_neg he] at hz
      exact h.aft j z (by omega) (by omega) hz
/-- what divide answers -/
structure DivOK (p : Label) (l : List Label) (c : Cut) (r : Piece × Piece × Bool) : Prop where
  is : r.2.2 = isCut p l c
  l1 : isCut p l c = true → r.1.Label_ = half1 p c
  l2 : isCut p l c = true → r.2.1.Label_ = half2 p c
  p1 : isCut p l c = true → r.1.labels.Perm (l.filter (before c))
  p2 : isCut p l c = true → r.2.1.labels.Perm (l.filter fun x => !before c x)
theorem DivInv.fin {c : Cut} {l : List Label} {s : List Label × Nat} (h : DivInv c l l.length s) : (s.1.take s.2).Perm (l.filter (before c)) ∧ (s.1.drop s.2).Perm (l.filter fun x => !before c x) ∧
    l.all (fun x => before c x || behind c x) = true ∧ l.any (before c) = decide (0 < s.2) ∧ l.any (fun x => !before c x) = decide (s.2 < s.1.length) := by
  have hlen := h.perm.length_eq
  have hni := h.ni
  have t1 : ∀ x, x ∈ s.1.take s.2 → before c x = true := by
    intro x hx
    obtain ⟨j, hj, rfl⟩ := List.getElem_of_mem hx
    simp only [List.length_take] at hj
    exact h.bef j _ (by omega) (by simp)
  have t2 : ∀ x, x ∈ s.1.drop s.2 → before c x = false ∧ behind c x = true := by
    intro x hx
    obtain ⟨j, hj, rfl⟩ := List.getElem_of_mem hx
    simp only [List.length_drop] at hj
    exact h.aft (s.2 + j) _ (by omega) (by omega) (by simp)
  have f1 : s.1.filter (before c) = s.1.take s.2 := by
    conv => lhs; rw [← List.take_append_drop s.2 s.1]
    rw [List.filter_append, List.filter_eq_self.2 t1, List.filter_eq_nil_iff.2 (fun x hx => by rw [(t2 x hx).1]; simp), List.append_nil]
  have f2 : s.1.filter (fun x => !before c x) = s.1.drop s.2 := by
    conv => lhs; rw [← List.take_append_drop s.2 s.1]
    rw [List.filter_append, List.filter_eq_nil_iff.2 (fun x hx => by rw [t1 x hx]; simp), List.filter_eq_self.2 (fun x hx => by rw [(t2 x hx).1]; rfl), List.nil_append]
  have g1 := (h.perm.filter (before c))
  have g2 := (h.perm.filter fun x => !before c x)
  rw [f1] at g1; rw [f2] at g2
  refine ⟨g1, g2, ?_, ?_, ?_⟩
  · rw [← h.perm.all_eq, List.all_eq_true]
    intro x hx
    rw [← List.take_append_drop s.2 s.1, List.mem_append] at hx
    rcases hx with hx | hx
    · rw [t1 x hx]; rfl
    · rw [(t2 x hx).2]; simp
  · rw [← h.perm.any_eq, Bool.eq_iff_iff, List.any_eq_true, decide_eq_true_eq]
    constructor
    · rintro ⟨x, hx, hb⟩
      have : x ∈ s.1.filter (before c) := List.mem_filter.2 ⟨hx, hb⟩
      rw [f1] at this
      have := List.length_pos_of_mem this
      simp only [List.length_take] at this; omega
    · intro hp
      have hl : 0 < s.1.length := by omega
      exact ⟨s.1[0], List.getElem_mem hl, h.bef 0 _ hp (by simp)⟩
  · rw [← h.perm.any_eq, Bool.eq_iff_iff, List.any_eq_true, decide_eq_true_eq]
    constructor
    · rintro ⟨x, hx, hb⟩
      have : x ∈ s.1.filter (fun x => !before c x) := List.mem_filter.2 ⟨hx, hb⟩
      rw [f2] at this
      have := List.length_pos_of_mem this
      simp only [List.length_drop] at this; omega
    · intro hp
      exact ⟨s.1[s.2], List.getElem_mem hp, by rw [(h.aft s.2 _ (Nat.le_refl _) (by omega) (List.getElem?_eq_getElem hp)).1]; rfl⟩
theorem f53_eq {N : Nat} {x : Label} : f53 N x = some (x.X, W (x.X + x.W)) := rfl
theorem f55_eq {N : Nat} {x : Label} : f55 N x = some (x.Y, W (x.Y + x.H)) := rfl
theorem f69_up {N : Nat} {p : Label} {l : List Label} {a : Int} (hs : Small p) (hf : ∀ x, x ∈ l → Fits p x) (hl : l.length ≤ 30) (hN : 30 < N) : ∃ r, f69 N ⟨p, l⟩ ⟨true, a⟩ = some r ∧ DivOK p l ⟨true, a⟩ r := by
  have s1 := hs.x0; have s2 := hs.y0; have s3 := hs.x1; have s4 := hs.y1; have s5 := hs.w; have s6 := hs.h
  unfold f69
  simp only [cond_true, f53_eq, Option.bind_some, f52_eq, joinK]
  rw [W_in (n := p.X + p.W) (by omega) (by omega), W_in (n := p.X + 1) (by omega) (by omega), W_in (n := p.X + p.W - 1) (by omega) (by omega)]
  have hin : inner ⟨true, a⟩ p = (decide (p.X + 1 ≤ a) && decide (a ≤ p.X + p.W - 1)) := rfl
  cases hb0 : (decide (p.X + 1 ≤ a) && decide (a ≤ p.X + p.W - 1)) with
  | false =>
    have hno : isCut p l ⟨true, a⟩ = false := by unfold isCut; rw [hin, hb0]; rfl
    refine ⟨_, rfl, ⟨hno.symm, ?_, ?_, ?_, ?_⟩⟩ <;> (intro h; rw [hno] at h; cases h)
  | true =>
    simp only [Bool.not_true, cond_false]
    have ha : p.X + 1 ≤ a ∧ a ≤ p.X + p.W - 1 := by rw [Bool.and_eq_true, decide_eq_true_iff, decide_eq_true_iff] at hb0; exact hb0
    clear hb0
    have hb0 : (decide (p.X + 1 ≤ a) && decide (a ≤ p.X + p.W - 1)) = true := by rw [decide_eq_true ha.1, decide_eq_true ha.2]; rfl
    rw [demB_same (fun h => by subst h; rfl), app_ok (by simp; omega) (by simp; omega)]
    simp only [Option.bind_some, List.nil_append]
    show ∃ r, f69_8 ⟨p, l⟩ ⟨true, a⟩ N l (f69_c17 ⟨p, l⟩ ⟨true, a⟩) N l ((0 : Nat) : Int) ((0 : Nat) : Int) = some r ∧ _
    refine loopI (F := fun m (s : List Label × Nat) i => f69_8 ⟨p, l⟩ ⟨true, a⟩ N l (f69_c17 ⟨p, l⟩ ⟨true, a⟩) m s.1 (s.2 : Int) i) l.length (fun i s => DivInv ⟨true, a⟩ l i s) (DivOK p l ⟨true, a⟩) ?_ ?_ N (l, 0) 0 DivInv.init (Nat.zero_le _) (by omega)
    · intro m s i hinv hil
      have hx : s.1[i]? = some l[i] := by rw [hinv.rest i (Nat.le_refl _)]; simp [hil]
      have hlen := hinv.perm.length_eq
      have hni := hinv.ni
      generalize hxx : l[i] = x at hx
      have hxl : l[i]? = some x := by rw [← hxx]; simp [hil]
      have hfx := hf x (List.mem_of_getElem? hxl)
      have t1 := hfx.w; have t2 := hfx.h; have t3 := hfx.x0; have t4 := hfx.y0; have t5 := hfx.x1; have t6 := hfx.y1
      have hW : W (x.X + x.W) = x.X + x.W := W_in (by omega) (by omega)
      simp only [f69_8, f69_8b, decide_eq_true (show (i : Int) < (l.length : Int) by omega), cond_true, ix_nat, hx, Option.bind_some, f53_eq, joinK, f69_c13, hW]
      by_cases c1 : x.X < a ∧ a < x.X + x.W
      · left
        have hno : isCut p l ⟨true, a⟩ = false := by
          have : (l.all fun x => before ⟨true, a⟩ x || behind ⟨true, a⟩ x) = false := by
            rw [List.all_eq_false]
            refine ⟨x, List.mem_of_getElem? hxl, ?_⟩
            simp only [Bool.or_eq_true, before_iff, behind_iff, lo, hi, cond_true]; omega
          unfold isCut; rw [this]; simp
        simp only [c1.1, c1.2, decide_true, cond_true]
        refine ⟨_, rfl, ⟨hno.symm, ?_, ?_, ?_, ?_⟩⟩ <;> (intro h; rw [hno] at h; cases h)
      · right
        have hgo : ∀ (A B : Option (Piece × Piece × Bool)), (bif decide (x.X < a) then bif decide (a < x.X + x.W) then A else B else B) = B := by
          intro A B
          by_cases d1 : x.X < a
          · have d2 : ¬ a < x.X + x.W := fun h => c1 ⟨d1, h⟩
            simp [d1, d2]
          · simp [d1]
        rw [hgo]
        by_cases c2 : x.X + x.W ≤ a
        · have hn : s.1[s.2]? = some (s.1[s.2]'(by omega)) := List.getElem?_eq_getElem _
          generalize s.1[s.2]'(by omega) = y at hn
          refine ⟨((s.1.set i y).set s.2 x, s.2 + 1), hinv.step_bef hxl hn (by simp [before, hi, c2]), ?_⟩
          have e1 : setx s.1 (i : Int) y = some (s.1.set i y) := by unfold setx; rw [if_pos ⟨by omega, by omega⟩]; simp
          have e2 : setx (s.1.set i y) (s.2 : Int) x = some ((s.1.set i y).set s.2 x) := by unfold setx; rw [if_pos ⟨by omega, by simp; omega⟩]; simp
          have e3 : ∃ z, (s.1.set i y)[s.2]? = some z := ⟨_, List.getElem?_eq_getElem (by simp; omega)⟩
          obtain ⟨z, e3⟩ := e3
          simp only [c2, decide_true, cond_true, hn, hx, Option.bind_some, e1, ix_nat, e3, e2, W_nat (show s.2 < 9223372036854775807 by omega), W_nat (show i < 9223372036854775807 by omega)]
        · refine ⟨s, hinv.step_aft hxl (by simp only [before_not, hi, cond_true]; omega) (by simp only [behind_iff, lo, cond_true]; by_cases d : x.X < a <;> omega), ?_⟩
          simp only [c2, decide_false, cond_false, W_nat (show i < 9223372036854775807 by omega)]
    · intro m s hinv
      have hlen := hinv.perm.length_eq
      have hni := hinv.ni
      obtain ⟨q1, q2, q3, q4, q5⟩ := hinv.fin
      simp only [f69_8, f69_8b, show decide ((l.length : Int) < (l.length : Int)) = false by simp, cond_false, f69_c17]
      rw [show sub s.1 0 (s.2 : Int) = some (s.1.take s.2) from (sub_nat (a := 0) (by omega) (by omega)).trans (by simp), sub_nat (by omega) (Nat.le_refl _)]
      rw [W_in (n := p.X + p.W) (by omega) (by omega), W_in (n := a - p.X) (by omega) (by omega), W_in (n := p.X + p.W - a) (by omega) (by omega)]
      have his : isCut p l ⟨true, a⟩ = (decide (0 < s.2) && decide (s.2 < s.1.length)) := by
        unfold isCut; rw [hin, hb0, q3, q4, q5]; simp
      have hd1 : (s.1.take s.1.length).drop s.2 = s.1.drop s.2 := by rw [List.take_length]
      simp only [Option.bind_some, hd1]
      by_cases d : 0 < s.2
      · simp only [show decide ((0 : Int) < (s.2 : Int)) = true by simp; omega, cond_true]
        refine ⟨_, rfl, ⟨?_, fun _ => rfl, fun _ => rfl, fun _ => q1, fun _ => q2⟩⟩
        rw [his]; simp [d]
      · simp only [show decide ((0 : Int) < (s.2 : Int)) = false by simp; omega, cond_false]
        refine ⟨_, rfl, ⟨?_, fun _ => rfl, fun _ => rfl, fun _ => q1, fun _ => q2⟩⟩
        rw [his]; simp [d]
theorem f69_lie {N : Nat} {p : Label} {l : List Label} {a : Int} (hs : Small p) (hf : ∀ x, x ∈ l → Fits p x) (hl : l.length ≤ 30) (hN : 30 < N) : ∃ r, f69 N ⟨p, l⟩ ⟨false, a⟩ = some r ∧ DivOK p l ⟨false, a⟩ r := by
  have s1 := hs.x0; have s2 := hs.y0; have s3 := hs.x1; have s4 := hs.y1; have s5 := hs.w; have s6 := hs.h
  unfold f69
  simp only [cond_false, f55_eq, Option.bind_some, f52_eq, joinK]
  rw [W_in (n := p.Y + p.H) (by omega) (by omega), W_in (n := p.Y + 1) (by omega) (by omega), W_in (n := p.Y + p.H - 1) (by omega) (by omega)]
  have hin : inner ⟨false, a⟩ p = (decide (p.Y + 1 ≤ a) && decide (a ≤ p.Y + p.H - 1)) := rfl
  cases hb0 : (decide (p.Y + 1 ≤ a) && decide (a ≤ p.Y + p.H - 1)) with
  | false =>
    have hno : isCut p l ⟨false, a⟩ = false := by unfold isCut; rw [hin, hb0]; rfl
    refine ⟨_, rfl, ⟨hno.symm, ?_, ?_, ?_, ?_⟩⟩ <;> (intro h; rw [hno] at h; cases h)
  | true =>
    simp only [Bool.not_true, cond_false]
    have ha : p.Y + 1 ≤ a ∧ a ≤ p.Y + p.H - 1 := by rw [Bool.and_eq_true, decide_eq_true_iff, decide_eq_true_iff] at hb0; exact hb0
    clear hb0
    have hb0 : (decide (p.Y + 1 ≤ a) && decide (a ≤ p.Y + p.H - 1)) = true := by rw [decide_eq_true ha.1, decide_eq_true ha.2]; rfl
    rw [demB_same (fun h => by subst h; rfl), app_ok (by simp; omega) (by simp; omega)]
    simp only [Option.bind_some, List.nil_append]
    show ∃ r, f69_8_1 ⟨p, l⟩ ⟨false, a⟩ N l (f69_c17_1 ⟨p, l⟩ ⟨false, a⟩) N l ((0 : Nat) : Int) ((0 : Nat) : Int) = some r ∧ _
    refine loopI (F := fun m (s : List Label × Nat) i => f69_8_1 ⟨p, l⟩ ⟨false, a⟩ N l (f69_c17_1 ⟨p, l⟩ ⟨false, a⟩) m s.1 (s.2 : Int) i) l.length (fun i s => DivInv ⟨false, a⟩ l i s) (DivOK p l ⟨false, a⟩) ?_ ?_ N (l, 0) 0 DivInv.init (Nat.zero_le _) (by omega)
    · intro m s i hinv hil
      have hx : s.1[i]? = some l[i] := by rw [hinv.rest i (Nat.le_refl _)]; simp [hil]
      have hlen := hinv.perm.length_eq
      have hni := hinv.ni
      generalize hxx : l[i] = x at hx
      have hxl : l[i]? = some x := by rw [← hxx]; simp [hil]
      have hfx := hf x (List.mem_of_getElem? hxl)
      have t1 := hfx.w; have t2 := hfx.h; have t3 := hfx.x0; have t4 := hfx.y0; have t5 := hfx.x1; have t6 := hfx.y1
      have hW : W (x.Y + x.H) = x.Y + x.H := W_in (by omega) (by omega)
      simp only [f69_8_1, f69_8_1b, decide_eq_true (show (i : Int) < (l.length : Int) by omega), cond_true, ix_nat, hx, Option.bind_some, f55_eq, joinK, f69_c13_1, hW]
      by_cases c1 : x.Y < a ∧ a < x.Y + x.H
      · left
        have hno : isCut p l ⟨false, a⟩ = false := by
          have : (l.all fun x => before ⟨false, a⟩ x || behind ⟨false, a⟩ x) = false := by
            rw [List.all_eq_false]
            refine ⟨x, List.mem_of_getElem? hxl, ?_⟩
            simp only [Bool.or_eq_true, before_iff, behind_iff, lo, hi, cond_false]; omega
          unfold isCut; rw [this]; simp
        simp only [c1.1, c1.2, decide_true, cond_true]
        refine ⟨_, rfl, ⟨hno.symm, ?_, ?_, ?_, ?_⟩⟩ <;> (intro h; rw [hno] at h; cases h)
      · right
        have hgo : ∀ (A B : Option (Piece × Piece × Bool)), (bif decide (x.Y < a) then bif decide (a < x.Y + x.H) then A else B else B) = B := by
          intro A B
          by_cases d1 : x.Y < a
          · have d2 : ¬ a < x.Y + x.H := fun h => c1 ⟨d1, h⟩
            simp [d1, d2]
          · simp [d1]
        rw [hgo]
        by_cases c2 : x.Y + x.H ≤ a
        · have hn : s.1[s.2]? = some (s.1[s.2]'(by omega)) := List.getElem?_eq_getElem _
          generalize s.1[s.2]'(by omega) = y at hn
          refine ⟨((s.1.set i y).set s.2 x, s.2 + 1), hinv.step_bef hxl hn (by simp [before, hi, c2]), ?_⟩
          have e1 : setx s.1 (i : Int) y = some (s.1.set i y) := by unfold setx; rw [if_pos ⟨by omega, by omega⟩]; simp
          have e2 : setx (s.1.set i y) (s.2 : Int) x = some ((s.1.set i y).set s.2 x) := by unfold setx; rw [if_pos ⟨by omega, by simp; omega⟩]; simp
          have e3 : ∃ z, (s.1.set i y)[s.2]? = some z := ⟨_, List.getElem?_eq_getElem (by simp; omega)⟩
          obtain ⟨z, e3⟩ := e3
          simp only [c2, decide_true, cond_true, hn, hx, Option.bind_some, e1, ix_nat, e3, e2, W_nat (show s.2 < 9223372036854775807 by omega), W_nat (show i < 9223372036854775807 by omega)]
        · refine ⟨s, hinv.step_aft hxl (by simp only [before_not, hi, cond_false]; omega) (by simp only [behind_iff, lo, cond_false]; by_cases d : x.Y < a <;> omega), ?_⟩
          simp only [c2, decide_false, cond_false, W_nat (show i < 9223372036854775807 by omega)]
    · intro m s hinv
      have hlen := hinv.perm.length_eq
      have hni := hinv.ni
      obtain ⟨q1, q2, q3, q4, q5⟩ := hinv.fin
      simp only [f69_8_1, f69_8_1b, show decide ((l.length : Int) < (l.length : Int)) = false by simp, cond_false, f69_c17_1]
      rw [show sub s.1 0 (s.2 : Int) = some (s.1.take s.2) from (sub_nat (a := 0) (by omega) (by omega)).trans (by simp), sub_nat (by omega) (Nat.le_refl _)]
      rw [W_in (n := p.Y + p.H) (by omega) (by omega), W_in (n := a - p.Y) (by omega) (by omega), W_in (n := p.Y + p.H - a) (by omega) (by omega)]
      have his : isCut p l ⟨false, a⟩ = (decide (0 < s.2) && decide (s.2 < s.1.length)) := by
        unfold isCut; rw [hin, hb0, q3, q4, q5]; simp
      have hd1 : (s.1.take s.1.length).drop s.2 = s.1.drop s.2 := by rw [List.take_length]
      simp only [Option.bind_some, hd1]
      by_cases d : 0 < s.2
      · simp only [show decide ((0 : Int) < (s.2 : Int)) = true by simp; omega, cond_true]
        refine ⟨_, rfl, ⟨?_, fun _ => rfl, fun _ => rfl, fun _ => q1, fun _ => q2⟩⟩
        rw [his]; simp [d]
      · simp only [show decide ((0 : Int) < (s.2 : Int)) = false by simp; omega, cond_false]
        refine ⟨_, rfl, ⟨?_, fun _ => rfl, fun _ => rfl, fun _ => q1, fun _ => q2⟩⟩
        rw [his]; simp [d]
theorem f69_ok {N : Nat} {p : Label} {l : List Label} {c : Cut} (hs : Small p) (hf : ∀ x, x ∈ l → Fits p x) (hl : l.length ≤ 30) (hN : 30 < N) : ∃ r, f69 N ⟨p, l⟩ c = some r ∧ DivOK p l c r := by
  obtain ⟨up, a⟩ := c
  cases up with
  | true => exact f69_up hs hf hl hN
  | false => exact f69_lie hs hf hl hN
end Go.Vc
namespace Go.Vc
open Go.Proofs
set_option linter.unusedVariables false
set_option linter.unnecessarySimpa false
set_option linter.unusedSimpArgs false
/- f3: tusche/tuschelaw06.CutLayouts -/
def f3_c15 (a0 : Layout) (N : Nat) (x3 : Layout) : Option (Bool) :=
 (f20 N a0).bind fun x9 =>
 (f21 N x3).bind fun x10 =>
 bif decide (x9 = x10) then ((f13 N ).bind fun x11 =>
 some (x11))
 else (some (false))
def Sf3_c15 : Ann := ⟨[2, 5], [0, 302], [], []⟩
def Vf3_c15 (a0 : Layout) (x3 : Layout) : List SV := [.ptr 0 0, .ptr 302 0]
def Bf3_c15 (a0 : Layout) (x3 : Layout) : List Blk := [.box [.dat (iN a0.W), .dat (iN a0.H), .dat (sl_Label a0.Labels)], .box [.dat (iN x3.W), .dat (iN x3.H), .dat (sl_Label x3.Labels)]]
theorem Cf3_c15 {c : Ctx} {p nid : Nat} {a b : Code} {st : St} {K : Ex → St → Prop} {r : Bool} {a0 : Layout} {N : Nat} {x3 : Layout} {g : _ → Option (Bool)} (hn : Nat.beq (nid * 1000 + firstRegion b) 15 = true) (hz : Sf3_c15.ok p = true)
    (h : g (f3_c15 a0 N x3) = some r → vc c p nid a st (Kseq (fun st' => st'.head Sf3_c15 fun v bl => ∃ x, (fun y : Unit => f3_c15 a0 N x3  = some r) x ∧ v = (fun y : Unit => Vf3_c15 a0 x3 ) x ∧ bl = (fun y : Unit => Bf3_c15 a0 x3 ) x) K))
    (h2 : ∀ (_ : Unit), f3_c15 a0 N x3  = some r → vc c p nid b (St.mk' Sf3_c15 (Vf3_c15 a0 x3 ) (Bf3_c15 a0 x3 )) K) (hF : joinK (f3_c15 a0 N x3) g = some r) : vc c p nid (.seq a b) st K :=
  vc_cut Sf3_c15 (fun y : Unit => Vf3_c15 a0 x3 ) (fun y : Unit => Bf3_c15 a0 x3 ) (fun y : Unit => f3_c15 a0 N x3  = some r) hz (h hF) fun y hy => h2 () hy
theorem Zf3_c15 {K : Ex → St → Prop} {r : Bool} {a0 : Layout} {N : Nat} {x3 : Layout} {st st' : St} (hF : f3_c15 a0 N x3  = some r) (h1 : st.norm Sf3_c15 = some st') (h2 : st'.cutOk Sf3_c15.keep Sf3_c15.bs (memB Sf3_c15.bs) = true) (h3 : vals Sf3_c15.keep st'.e = Vf3_c15 a0 x3 ) (h4 : blks Sf3_c15.bs st'.m = Bf3_c15 a0 x3 ) :
    Kseq (fun st' => st'.head Sf3_c15 fun v bl => ∃ x, (fun y : Unit => f3_c15 a0 N x3  = some r) x ∧ v = (fun y : Unit => Vf3_c15 a0 x3 ) x ∧ bl = (fun y : Unit => Bf3_c15 a0 x3 ) x) K .normal st := by
  exact k_seq (head_in (I := (fun y : Unit => f3_c15 a0 N x3  = some r)) (x := ()) hF h1 h2 h3 h4)
def f3_11b (r11 : Int → Option (Bool)) (a0 : Layout) (x3 : Layout) (x4 : (List Cut) × Int) (x5 : (List Cut) × Int) (k0 : Option (Bool)) (v14 : Int) : Option (Bool) :=
 bif decide (v14 < (List.length x4.1 : Int)) then ((ix x4.1 v14).bind fun x12 =>
 (ix x5.1 v14).bind fun x13 =>
 bif !((x12.Up == x13.Up) && (decide (x12.At = x13.At) && true)) then (some (false))
 else (r11 (W (v14 + (1 : Int)))))
 else k0
def f3_11 (a0 : Layout) (x3 : Layout) (x4 : (List Cut) × Int) (x5 : (List Cut) × Int) (k0 : Option (Bool)) : Nat → Int → Option (Bool)
  | 0, _ => none
  | n + 1, v14 => f3_11b (f3_11 a0 x3 x4 x5 k0 n) a0 x3 x4 x5 k0 v14
def Sf3_11 : Ann := ⟨[2, 5, 6, 8, 14], [0, 302], [], []⟩
def Vf3_11 (a0 : Layout) (x3 : Layout) (x4 : (List Cut) × Int) (x5 : (List Cut) × Int) (v14 : Int) : List SV := [.ptr 0 0, .ptr 302 0, .dat (sl_Cut x4.1), .dat (sl_Cut x5.1), .dat (iN v14)]
def Bf3_11 (a0 : Layout) (x3 : Layout) (x4 : (List Cut) × Int) (x5 : (List Cut) × Int) (v14 : Int) : List Blk := [.box [.dat (iN a0.W), .dat (iN a0.H), .dat (sl_Label a0.Labels)], .box [.dat (iN x3.W), .dat (iN x3.H), .dat (sl_Label x3.Labels)]]
theorem Lf3_11 {c : Ctx} {p nid : Nat} {a : Code} {K : Ex → St → Prop} {r : Bool} {a0 : Layout} {x3 : Layout} {x4 : (List Cut) × Int} {x5 : (List Cut) × Int} {k0 : Option (Bool)} {fu : Nat} {v14 : Int} {st st' : St} (hz : Sf3_11.ok p = true) (h1 : st.norm Sf3_11 = some st') (h2 : st'.cutOk Sf3_11.keep Sf3_11.bs (memB Sf3_11.bs) = true) (h3 : vals Sf3_11.keep st'.e = Vf3_11 a0 x3 x4 x5 v14) (h4 : blks Sf3_11.bs st'.m = Bf3_11 a0 x3 x4 x5 v14)
    (h : ∀ (n : Nat) (v14 : Int), f3_11b (f3_11 a0 x3 x4 x5 k0 n) a0 x3 x4 x5 k0 v14 = some r → vc c p nid a (St.mk' Sf3_11 (Vf3_11 a0 x3 x4 x5 v14) (Bf3_11 a0 x3 x4 x5 v14)) (Kloop Sf3_11 (fun y : Nat × Int => Vf3_11 a0 x3 x4 x5 y.2) (fun y : Nat × Int => Bf3_11 a0 x3 x4 x5 y.2) (fun y : Nat × Int => f3_11 a0 x3 x4 x5 k0 y.1 y.2 = some r) (fun y : Nat × Int => y.1) (n + 1, v14) K)) (hF : f3_11 a0 x3 x4 x5 k0 fu v14 = some r) : vc c p nid (.loop a) st K := by
  refine vc_loop Sf3_11 (fun y : Nat × Int => Vf3_11 a0 x3 x4 x5 y.2) (fun y : Nat × Int => Bf3_11 a0 x3 x4 x5 y.2) (fun y : Nat × Int => f3_11 a0 x3 x4 x5 k0 y.1 y.2 = some r) (fun y : Nat × Int => y.1) hz (head_in (x := (fu, v14)) hF h1 h2 h3 h4) ?_
  rintro ⟨_ | n, v14⟩ hI
  · cases hI
  · exact h n v14 hI
theorem Mf3_11 {K : Ex → St → Prop} {r : Bool} {a0 : Layout} {x3 : Layout} {x4 : (List Cut) × Int} {x5 : (List Cut) × Int} {k0 : Option (Bool)} {n : Nat} {v14 : Int} {v14_ : Int} {st st' : St} (hF : f3_11 a0 x3 x4 x5 k0 n v14 = some r) (h1 : st.norm Sf3_11 = some st') (h2 : st'.cutOk Sf3_11.keep Sf3_11.bs (memB Sf3_11.bs) = true) (h3 : vals Sf3_11.keep st'.e = Vf3_11 a0 x3 x4 x5 v14) (h4 : blks Sf3_11.bs st'.m = Bf3_11 a0 x3 x4 x5 v14) :
    Kloop Sf3_11 (fun y : Nat × Int => Vf3_11 a0 x3 x4 x5 y.2) (fun y : Nat × Int => Bf3_11 a0 x3 x4 x5 y.2) (fun y : Nat × Int => f3_11 a0 x3 x4 x5 k0 y.1 y.2 = some r) (fun y : Nat × Int => y.1) (n + 1, v14_) K .normal st := by
  exact head_back (y := (n, v14)) hF (Nat.lt_succ_self n) h1 h2 h3 h4
def f3 (N : Nat) (a0 : Layout) (a1 : List Kind) : Option (Bool) :=
 bif decide ((30 : Int) < (List.length a0.Labels : Int)) then ((f13 N ).bind fun x1 =>
 some (x1))
 else (bif decide ((30 : Int) < (List.length a1 : Int)) then ((f13 N ).bind fun x2 =>
 some (x2))
 else ((f14 N a0).bind fun x3 =>
 (f15 N a0).bind fun x4 =>
 (f16 N x3).bind fun x5 =>
 (f17 N a0 a1).bind fun x6 =>
 (f19 N a1).bind fun x7 =>
 (f18 N x3 x7).bind fun x8 =>
 bif decide (¬ x4.2 = x5.2) then (some (false))
 else (bif decide (¬ (List.length x4.1 : Int) = (List.length x5.1 : Int)) then (some (false))
 else (bif decide (¬ x6.1 = x8.1) then (some (false))
 else (bif decide (¬ x6.2 = x8.2) then (some (false))
 else (joinK (f3_c15 a0 N x3) fun k0 =>
 f3_11 a0 x3 x4 x5 k0 N (0 : Int)))))))
def G3 (ds : List D) (d : D) : Prop := ∃ (N : Nat) (a0 : Layout) (a1 : List Kind) (r : Bool), ds = [Layout.d a0, sl_Kind a1] ∧ f3 N a0 a1 = some r ∧ d = bN r
theorem G3.step {N : Nat} {a0 : Layout} {a1 : List Kind} {ρ : Type} {A : Bool → Option ρ} {q : ρ} {ds : List D} {K : D → Prop} (hd : ds = [Layout.d a0, sl_Kind a1]) (h : ∀ r, A r = some q → K (bN r)) (hF : (f3 N a0 a1).bind A = some q) : ∃ d, G3 ds d ∧ K d := by
  obtain ⟨r, hr, hA⟩ := bind_some hF
  exact ⟨_, ⟨N, a0, a1, r, hd, hr, rfl⟩, h r hA⟩
set_option maxRecDepth 20000 in
set_option maxHeartbeats 4000000 in
theorem P3 : PureOK Try.prog 3 G3 := by
  refine pure_of_vc (c := mkCtx tyTree [(21, true, purePg [[0, 0, 4]] G21), (20, true, purePg [[0, 0, 4]] G20), (19, true, purePg [[3]] G19), (18, true, purePg [[0, 0, 4], [3]] G18), (17, true, purePg [[0, 0, 4], [3]] G17), (16, true, purePg [[0, 0, 4]] G16), (15, true, purePg [[0, 0, 4]] G15), (14, true, purePg [[0, 0, 4]] G14), (13, true, purePg [] G13)]) rfl tyOK (ctx_cons (callable Try.func21 rfl rfl) P21 (ctx_cons (callable Try.func20 rfl rfl) P20 (ctx_cons (callable Try.func19 rfl rfl) P19 (ctx_cons (callable Try.func18 rfl rfl) P18 (ctx_cons (callable Try.func17 rfl rfl) P17 (ctx_cons (callable Try.func16 rfl rfl) P16 (ctx_cons (callable Try.func15 rfl rfl) P15 (ctx_cons (callable Try.func14 rfl rfl) P14 (ctx_cons (callable Try.func13 rfl rfl) P13 (ctx_nil)))))))))) [[0]] 2 Try.func3 rfl rfl (by decide) (by kernel_rfl) ?_
  rintro ds d ⟨N, a0, a1, r, rfl, hF, rfl⟩ hok
  clear hok
  refine ⟨rfl, ?_⟩
  show vc _ _ _ _ ⟨[(0, .dat (Layout.d a0)), (1, .dat (sl_Kind a1))], []⟩ _
  unfold f3 at hF
  repeat' (first
    | ((with_reducible refine q0 _ _ ?_); clear Q q0 q1 q2)
    | ((with_reducible refine q1 _ _ _ _ ?_); clear Q q0 q1 q2)
    | ((with_reducible refine q2 _ _ _ ?_); clear Q q0 q1 q2)
    | ((with_reducible refine seq_op ?hx (fun Q q0 q1 q2 => ?_)); (case hx => exact rfl); conv => whnf)
    | ((with_reducible refine draw_op ?hx (fun Q q0 q1 q2 => ?_)); (case hx => exact rfl); conv => whnf)
    | ((with_reducible refine seq_op0 ?hx (fun Q q0 q1 q2 => ?_)); (case hx => exact rfl); conv => whnf)
    | ((with_reducible refine draw_op0 ?hx (fun Q q0 q1 q2 => ?_)); (case hx => exact rfl); conv => whnf)
    | ((with_reducible refine seq_off ?hx ?_); (case hx => exact rfl))
    | ((with_reducible refine seq_off0 ?hx ?_); (case hx => exact rfl))
    | ((with_reducible refine draw_off ?hx ?_); (case hx => exact rfl))
    | ((with_reducible refine draw_off0 ?hx ?_); (case hx => exact rfl))
    | ((with_reducible refine seq_id ?_); (first | ((refine seq_opK rfl ?hy (fun Q q0 q1 q2 => ?_)); (case hy => first | assumption | exact notT (by assumption) | exact rfl); conv => whnf) | ((refine seq_offK rfl ?hy ?_); (case hy => first | assumption | exact notF (by assumption) | exact rfl)) | ((refine seq_opK0 rfl ?hy (fun Q q0 q1 q2 => ?_)); (case hy => first | assumption | exact notT (by assumption) | exact rfl); conv => whnf) | ((refine seq_offK0 rfl ?hy ?_); (case hy => first | assumption | exact notF (by assumption) | exact rfl)) | (revert hF; (with_reducible refine seq_opF ?hx ?_ ?_); (case hx => exact rfl); (intro hc hF Q q0 q1 q2; conv => whnf); rotate_left; (intro hc hF); rotate_right) | (revert hF; (with_reducible refine seq_opN ?hx ?_ ?_); (case hx => exact rfl); (intro hc hF); rotate_left; (intro hc hF Q q0 q1 q2; conv => whnf); rotate_right) | (revert hF; (with_reducible refine seq_opF0 ?hx ?_ ?_); (case hx => exact rfl); (intro hc hF Q q0 q1 q2; conv => whnf); rotate_left; (intro hc hF); rotate_right) | (revert hF; (with_reducible refine seq_opN0 ?hx ?_ ?_); (case hx => exact rfl); (intro hc hF); rotate_left; (intro hc hF Q q0 q1 q2; conv => whnf); rotate_right)))
    | ((with_reducible refine draw_id ?_); (first | ((refine draw_opK rfl ?hy (fun Q q0 q1 q2 => ?_)); (case hy => first | assumption | exact notT (by assumption) | exact rfl); conv => whnf) | ((refine draw_offK rfl ?hy ?_); (case hy => first | assumption | exact notF (by assumption) | exact rfl)) | ((refine draw_opK0 rfl ?hy (fun Q q0 q1 q2 => ?_)); (case hy => first | assumption | exact notT (by assumption) | exact rfl); conv => whnf) | ((refine draw_offK0 rfl ?hy ?_); (case hy => first | assumption | exact notF (by assumption) | exact rfl)) | (revert hF; (with_reducible refine draw_opF ?hx ?_ ?_); (case hx => exact rfl); (intro hc hF Q q0 q1 q2; conv => whnf); rotate_left; (intro hc hF); rotate_right) | (revert hF; (with_reducible refine draw_opN ?hx ?_ ?_); (case hx => exact rfl); (intro hc hF); rotate_left; (intro hc hF Q q0 q1 q2; conv => whnf); rotate_right) | (revert hF; (with_reducible refine draw_opF0 ?hx ?_ ?_); (case hx => exact rfl); (intro hc hF Q q0 q1 q2; conv => whnf); rotate_left; (intro hc hF); rotate_right) | (revert hF; (with_reducible refine draw_opN0 ?hx ?_ ?_); (case hx => exact rfl); (intro hc hF); rotate_left; (intro hc hF Q q0 q1 q2; conv => whnf); rotate_right)))
    | ((with_reducible refine cond_id ?_); (first | ((refine condKT rfl ?hy ?_); (case hy => first | assumption | exact notT (by assumption) | exact rfl)) | ((refine condKF rfl ?hy ?_); (case hy => first | assumption | exact notF (by assumption) | exact rfl)) | (revert hF; (with_reducible refine condF ?hx ?_ ?_); (case hx => exact rfl); all_goals (intro hc hF))))
    | ((with_reducible refine seq_nil ?_); (first | ((with_reducible refine hR _ ?_); clear R hR) | ((with_reducible refine hL _ ?_); clear L hL)))
    | ((with_reducible refine draw_nil ?_); (with_reducible refine hR _ _ ?hx ?_); (case hx => kernel_rfl); (first | clear R hR | clear hR))
    | ((with_reducible refine int_step ?_); conv => whnf)
    | ((with_reducible refine len_step ?_); conv => whnf)
    | ((with_reducible refine idx2 (by assumption) ?_); conv => whnf)
    | ((with_reducible refine idx3 (by assumption) ?_); conv => whnf)
    | with_reducible refine vc_block ?_
    | with_reducible refine vc_skip ?_
    | with_reducible refine vc_ret ?_
    | with_reducible refine vc_exit ?_
    | ((with_reducible refine vc_seqN [15] ?hx ?_); (case hx => exact rfl))
    | (with_reducible refine vc_region (fun R hR => ?_))
    | ((with_reducible refine vc_draw ?hx (fun R hR => ?_)); (case hx => exact rfl))
    | fail
    | (revert hF; (refine Cf3_c15 rfl rfl ?_ ?_); (intro hF); rotate_left; (intro _ hF; unfold f3_c15 at hF); rotate_right)
    | exact Zf3_c15 hF rfl rfl rfl rfl
    | (revert hF; (refine Lf3_11 rfl rfl rfl rfl rfl ?_); intro n v14 hF; unfold f3_11b at hF)
    | exact Mf3_11 hF rfl rfl rfl rfl
    | (revert hF; (with_reducible refine G13.step ?hx ?_); (case hx => exact rfl); intro v hF; conv => whnf)
    | (revert hF; (with_reducible refine G14.step ?hx ?_); (case hx => exact rfl); intro v hF; conv => whnf)
    | (revert hF; (with_reducible refine G15.step ?hx ?_); (case hx => exact rfl); intro v hF; conv => whnf)
    | (revert hF; (with_reducible refine G16.step ?hx ?_); (case hx => exact rfl); intro v hF; conv => whnf)
    | (revert hF; (with_reducible refine G17.step ?hx ?_); (case hx => exact rfl); intro v hF; conv => whnf)
    | (revert hF; (with_reducible refine G18.step ?hx ?_); (case hx => exact rfl); intro v hF; conv => whnf)
    | (revert hF; (with_reducible refine G19.step ?hx ?_); (case hx => exact rfl); intro v hF; conv => whnf)
    | (revert hF; (with_reducible refine G20.step ?hx ?_); (case hx => exact rfl); intro v hF; conv => whnf)
    | (revert hF; (with_reducible refine G21.step ?hx ?_); (case hx => exact rfl); intro v hF; conv => whnf)
    | with_reducible refine k_seq_ret ?_
    | with_reducible refine k_seq_exit ?_
    | with_reducible refine k_blk ?_
    | with_reducible refine k_blk_ret ?_
    | with_reducible refine k_blk_here ?_
    | ((with_reducible refine k_blk_out ?hx ?_); (case hx => exact rfl))
    | with_reducible refine k_loop_ret ?_
    | with_reducible refine k_loop_exit ?_
    | (revert hF; (with_reducible refine idx1 ?hn ?_); (case hn => first | exact rfl | exact (List.length_map _) | assumption | omega | simp); intro x hx hF; conv => whnf)
    | ((with_reducible have hG := sub_fact hF); clear hF; (first | (refine sub_step hG (fun q hF => ?_)) | (refine subrow_step hG ?hn (fun q hF => ?_); (case hn => first | exact rfl | assumption | omega))); clear hG; conv => whnf)
    | ((with_reducible have hG := app_fact hF); clear hF; (first | ((refine app_row hG ?hn ?hs (fun q hF => ?_)); (case hn => first | exact rfl | assumption | omega); (case hs => exact rfl)) ); clear hG; conv => whnf)
    | ((refine row_all ?hn ?_); (case hn => first | exact rfl | (simp; done) | (simp; omega)); conv => whnf)
    | ((with_reducible refine le_step ?hn ?_); (case hn => first | exact rfl | assumption | omega); conv => whnf)
    | ((with_reducible have hG := setx_fact hF); clear hF; (refine setx_step hG ?hs (fun q hl hF => ?_)); (case hs => exact rfl); clear hG; conv => whnf)
    | (revert hF; (with_reducible refine dem_step ?_ ?_); (intro hl hF; conv => whnf); rotate_left; (intro hF; conv => whnf); rotate_right)
    | ((refine ⟨?hx, ?_⟩); (case hx => exact ⟨rfl, Nat.le_of_ble_eq_true rfl, rfl⟩); conv => whnf)
    | ((with_reducible refine ex_step ?_); conv => whnf)
    | ((with_reducible have hG := chk_fact hF); clear hF; (refine ⟨?hx, ?_⟩); (case hx => (first | exact of_decide_eq_true hG.1 | exact hG.1)); have hF := hG.2; clear hG; conv => whnf)
    | ((with_reducible refine both_T ?hx ?_); (case hx => first | exact rfl | assumption | exact notT (by assumption)); conv => whnf)
    | ((with_reducible refine both_F ?hx ?_); (case hx => first | exact rfl | assumption | exact notF (by assumption)); conv => whnf)
    | (revert hF; (with_reducible refine ite_step ?_ ?_) <;> (intro hc hF; conv => whnf))
    | ((with_reducible refine vc_condT ?hx ?_); (case hx => exact rfl))
    | ((with_reducible refine vc_condF ?hx ?_); (case hx => exact rfl))
    | (show retD _ _ _ _ _ _; conv => whnf)
    | ((refine inl_step ?ha ?hb ?hc rfl ?_); (case ha => exact rfl); (case hb => omega); (case hc => exact Nat.le_of_ble_eq_true rfl))
    | (show Kinl _ _ _ _ _ _ _; conv => whnf)
    | ((with_reducible refine kinl_step ?ha ?hb ?_); (case ha => exact rfl); (case hb => exact rfl); conv => whnf)
    | ((refine ⟨?hx, trivial⟩); (case hx => (cases hF; exact rfl)))
    | ((refine ⟨?hx, ?_⟩); (case hx => decide); conv => whnf)
    | ((with_reducible refine k_seq ?_))
    | (have hF : (none : Option _) = some _ := hF; cases hF))
end Go.Vc

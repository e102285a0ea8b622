/-
  A library for proofs about Go functions by symbolic evaluation, and plain Lean functions that the walked Go functions compute (written by a program of this claim).
-/
import Derived.Test.YtifcnocpjdmaiaaBestF1
import Derived.Test.YtifcnocpjdmaiaaBestF2
import Derived.Test.YtifcnocpjdmaiaaVc2
namespace Go.Vc
open Go.Proofs
set_option linter.unusedVariables false
set_option linter.unnecessarySimpa false
set_option linter.unusedSimpArgs false
section
variable {c : Ctx} {p nid : Nat} {a b : Code} {st : St} {K : Ex → St → Prop}
/- f5: tusche/tuschelaw06.CutBest -/
def f5_c11 (a0 : Int) (a1 : Int) (N : Nat) (x2 : List Kind) (x4 : Int × Int × Int) (x5 : Layout × Int) (v12 : Int) : Option (Bool) :=
 bif decide (¬ v12 = (0 : Int)) then (bif decide (x5.2 = v12) then (bif decide (x5.1.W = (0 : Int)) then (bif decide (x5.1.H = (0 : Int)) then (bif decide ((List.length x5.1.Labels : Int) = (0 : Int)) then ((f13 N ).bind fun x6 =>
 some (x6))
 else (some (false)))
 else (some (false)))
 else (some (false)))
 else (some (false)))
 else ((f14 N x5.1).bind fun x7 =>
 (f18 N x7 x2).bind fun x8 =>
 bif decide (x5.2 = (0 : Int)) then (bif decide (x5.1.W = a0) then (bif decide (x5.1.H = a1) then (bif decide (x8.2 = (0 : Int)) then (bif decide (x8.1 = x4.1) then ((f23 N x7).bind fun x9 =>
 bif decide (x9 = (0 : Int)) then ((f13 N ).bind fun x10 =>
 some (x10))
 else (some (false)))
 else (some (false)))
 else (some (false)))
 else (some (false)))
 else (some (false)))
 else (some (false)))
def Sf5_c11 : Ann := ⟨[0, 1, 7, 10, 12, 13, 14], [607], [], []⟩
def Vf5_c11 (a0 : Int) (a1 : Int) (x2 : List Kind) (x4 : Int × Int × Int) (x5 : Layout × Int) (v12 : Int) : List SV := [.dat (iN a0), .dat (iN a1), .dat (sl_Kind x2), .dat (iN x4.1), .dat (iN v12), .ptr 607 0, .dat (iN x5.2)]
def Bf5_c11 (a0 : Int) (a1 : Int) (x2 : List Kind) (x4 : Int × Int × Int) (x5 : Layout × Int) (v12 : Int) : List Blk := [.box [.dat (iN x5.1.W), .dat (iN x5.1.H), .dat (sl_Label x5.1.Labels)]]
def Yf5_c11 (a0 : Int) (a1 : Int) (x2 : List Kind) (x4 : Int × Int × Int) (x5 : Layout × Int) (y : Int) : List SV := Vf5_c11 a0 a1 x2 x4 x5 y
def Xf5_c11 (a0 : Int) (a1 : Int) (x2 : List Kind) (x4 : Int × Int × Int) (x5 : Layout × Int) (y : Int) : List Blk := Bf5_c11 a0 a1 x2 x4 x5 y
def Jf5_c11 (a0 : Int) (a1 : Int) (N : Nat) (x2 : List Kind) (x4 : Int × Int × Int) (x5 : Layout × Int) (r : Bool) (y : Int) : Prop := f5_c11 a0 a1 N x2 x4 x5 y = some r
theorem Cf5_c11 {r : Bool} {a0 : Int} {a1 : Int} {N : Nat} {x2 : List Kind} {x4 : Int × Int × Int} {x5 : Layout × Int} {g : _ → Option (Bool)} (hn : Nat.beq (nid * 1000 + firstRegion b) 11 = true) (hz : Sf5_c11.ok p = true) (h : g (f5_c11 a0 a1 N x2 x4 x5) = some r → vc c p nid a st (KHead Sf5_c11 (Yf5_c11 a0 a1 x2 x4 x5) (Xf5_c11 a0 a1 x2 x4 x5) (Jf5_c11 a0 a1 N x2 x4 x5 r) K)) (h2 : ∀ (v12 : Int), f5_c11 a0 a1 N x2 x4 x5 v12 = some r → vc c p nid b (St.mk' Sf5_c11 (Vf5_c11 a0 a1 x2 x4 x5 v12) (Bf5_c11 a0 a1 x2 x4 x5 v12)) K) (hF : joinK (f5_c11 a0 a1 N x2 x4 x5) g = some r) : vc c p nid (.seq a b) st K :=
  vc_cut Sf5_c11 (Yf5_c11 a0 a1 x2 x4 x5) (Xf5_c11 a0 a1 x2 x4 x5) (Jf5_c11 a0 a1 N x2 x4 x5 r) hz (h hF) fun y hy => h2 y hy
theorem Zf5_c11 {r : Bool} {a0 : Int} {a1 : Int} {N : Nat} {x2 : List Kind} {x4 : Int × Int × Int} {x5 : Layout × Int} {v12 : Int} (hF : f5_c11 a0 a1 N x2 x4 x5 v12 = some r) (h0 : AtH Sf5_c11 st (Vf5_c11 a0 a1 x2 x4 x5 v12) (Bf5_c11 a0 a1 x2 x4 x5 v12)) : KHead Sf5_c11 (Yf5_c11 a0 a1 x2 x4 x5) (Xf5_c11 a0 a1 x2 x4 x5) (Jf5_c11 a0 a1 N x2 x4 x5 r) K .normal st := by
  exact khead (I := (Jf5_c11 a0 a1 N x2 x4 x5 r)) (x := (v12)) hF h0
def f5 (N : Nat) (a0 : Int) (a1 : Int) (a2 : List Kind) : Option (Bool) :=
 bif decide ((30 : Int) < (List.length a2 : Int)) then ((f13 N ).bind fun x1 =>
 some (x1))
 else ((f19 N a2).bind fun x2 =>
 (f29 N a0 a1 a2).bind fun x3 =>
 (f30 N a0 a1 x2).bind fun x4 =>
 (f31 N a0 a1 a2).bind fun x5 =>
 bif decide (¬ x3.1 = x4.1) then (some (false))
 else (bif decide (¬ x3.2 = x4.2.2) then (some (false))
 else (joinK (f5_c11 a0 a1 N x2 x4 x5) fun k0 =>
 bif decide (x4.2.2 = (0 : Int)) then (bif decide ((10 : Int) < x4.2.1) then (k0 (16 : Int))
 else (k0 x4.2.2))
 else (k0 x4.2.2))))
def G5 (ds : List D) (d : D) : Prop := ∃ (N : Nat) (a0 : Int) (a1 : Int) (a2 : List Kind) (r : Bool), ds = [iN a0, iN a1, sl_Kind a2] ∧ f5 N a0 a1 a2 = some r ∧ d = bN r
theorem G5.step {N : Nat} {a0 : Int} {a1 : Int} {a2 : List Kind} {ρ : Type} {A : Bool → Option ρ} {q : ρ} {ds : List D} {K : D → Prop} (hd : ds = [iN a0, iN a1, sl_Kind a2]) (h : ∀ r, A r = some q → K (bN r)) (hF : (f5 N a0 a1 a2).bind A = some q) : ∃ d, G5 ds d ∧ K d := by
  obtain ⟨r, hr, hA⟩ := bind_some hF
  exact ⟨_, ⟨N, a0, a1, a2, r, hd, hr, rfl⟩, h r hA⟩
set_option maxRecDepth 20000 in
set_option maxHeartbeats 4000000 in
theorem P5 : PureOK Try.prog 5 G5 := by
  refine pure_of_vc (c := mkCtx tyTree [(31, true, purePg [[0], [0], [3]] G31), (30, true, purePg [[0], [0], [3]] G30), (29, true, purePg [[0], [0], [3]] G29), (23, true, purePg [[0, 0, 4]] G23), (19, true, purePg [[3]] G19), (18, true, purePg [[0, 0, 4], [3]] G18), (14, true, purePg [[0, 0, 4]] G14), (13, true, purePg [] G13)]) rfl tyOK (ctx_cons (callable Try.func31 rfl rfl) P31 (ctx_cons (callable Try.func30 rfl rfl) P30 (ctx_cons (callable Try.func29 rfl rfl) P29 (ctx_cons (callable Try.func23 rfl rfl) P23 (ctx_cons (callable Try.func19 rfl rfl) P19 (ctx_cons (callable Try.func18 rfl rfl) P18 (ctx_cons (callable Try.func14 rfl rfl) P14 (ctx_cons (callable Try.func13 rfl rfl) P13 (ctx_nil))))))))) [[0]] 3 Try.func5 rfl rfl (by decide) (by kernel_rfl) ?_
  rintro ds d ⟨N, a0, a1, a2, r, rfl, hF, rfl⟩ hok
  clear hok
  refine ⟨rfl, ?_⟩
  show vc _ _ _ _ ⟨[(0, .dat (iN a0)), (1, .dat (iN a1)), (2, .dat (sl_Kind a2))], []⟩ _
  unfold f5 at hF
  repeat' (first
    | ((with_reducible refine q0 _ _ ?_); clear Q q0 q1 q2)
    | ((with_reducible refine q1 _ _ _ _ ?_); clear Q q0 q1 q2)
    | ((with_reducible refine q2 _ _ _ ?_); clear Q q0 q1 q2)
    | ((with_reducible refine seq_op ?hx (fun Q q0 q1 q2 => ?_)); (case hx => exact rfl); conv => whnf)
    | ((with_reducible refine seq_op0 ?hx (fun Q q0 q1 q2 => ?_)); (case hx => exact rfl); conv => whnf)
    | ((with_reducible refine seq_off ?hx ?_); (case hx => exact rfl))
    | ((with_reducible refine seq_off0 ?hx ?_); (case hx => exact rfl))
    | ((with_reducible refine seq_id ?_); (first | ((refine seq_opK rfl ?hy (fun Q q0 q1 q2 => ?_)); (case hy => first | assumption | exact notT (by assumption) | exact rfl); conv => whnf) | ((refine seq_offK rfl ?hy ?_); (case hy => first | assumption | exact notF (by assumption) | exact rfl)) | ((refine seq_opK0 rfl ?hy (fun Q q0 q1 q2 => ?_)); (case hy => first | assumption | exact notT (by assumption) | exact rfl); conv => whnf) | ((refine seq_offK0 rfl ?hy ?_); (case hy => first | assumption | exact notF (by assumption) | exact rfl)) | (revert hF; (with_reducible refine seq_opF ?hx ?_ ?_); (case hx => exact rfl); (intro hc hF Q q0 q1 q2; conv => whnf); rotate_left; (intro hc hF); rotate_right) | (revert hF; (with_reducible refine seq_opN ?hx ?_ ?_); (case hx => exact rfl); (intro hc hF); rotate_left; (intro hc hF Q q0 q1 q2; conv => whnf); rotate_right) | (revert hF; (with_reducible refine seq_opF0 ?hx ?_ ?_); (case hx => exact rfl); (intro hc hF Q q0 q1 q2; conv => whnf); rotate_left; (intro hc hF); rotate_right) | (revert hF; (with_reducible refine seq_opN0 ?hx ?_ ?_); (case hx => exact rfl); (intro hc hF); rotate_left; (intro hc hF Q q0 q1 q2; conv => whnf); rotate_right)))
    | ((with_reducible refine cond_id ?_); (first | ((refine condKT rfl ?hy ?_); (case hy => first | assumption | exact notT (by assumption) | exact rfl)) | ((refine condKF rfl ?hy ?_); (case hy => first | assumption | exact notF (by assumption) | exact rfl)) | (revert hF; (with_reducible refine condF ?hx ?_ ?_); (case hx => exact rfl); all_goals (intro hc hF))))
    | ((with_reducible refine seq_nil ?_); (first | ((with_reducible refine hR _ ?_); clear R hR) | ((with_reducible refine hL _ ?_); clear L hL)))
    | ((with_reducible refine int_step ?_); conv => whnf)
    | ((with_reducible refine len_step ?_); conv => whnf)
    | with_reducible refine vc_block ?_
    | with_reducible refine vc_skip ?_
    | with_reducible refine vc_ret ?_
    | with_reducible refine vc_exit ?_
    | ((with_reducible refine vc_seqN [11] ?hx ?_); (case hx => exact rfl))
    | (with_reducible refine vc_region (fun R hR => ?_))
    | fail
    | (revert hF; (refine Cf5_c11 rfl rfl ?_ ?_); (intro hF); rotate_left; (intro v12 hF; unfold f5_c11 at hF); rotate_right)
    | exact Zf5_c11 hF ⟨_, rfl, rfl, rfl, rfl⟩
    | (revert hF; (with_reducible refine G13.step ?hx ?_); (case hx => exact rfl); intro v hF; conv => whnf)
    | (revert hF; (with_reducible refine G14.step ?hx ?_); (case hx => exact rfl); intro v hF; conv => whnf)
    | (revert hF; (with_reducible refine G18.step ?hx ?_); (case hx => exact rfl); intro v hF; conv => whnf)
    | (revert hF; (with_reducible refine G19.step ?hx ?_); (case hx => exact rfl); intro v hF; conv => whnf)
    | (revert hF; (with_reducible refine G23.step ?hx ?_); (case hx => exact rfl); intro v hF; conv => whnf)
    | (revert hF; (with_reducible refine G29.step ?hx ?_); (case hx => exact rfl); intro v hF; conv => whnf)
    | (revert hF; (with_reducible refine G30.step ?hx ?_); (case hx => exact rfl); intro v hF; conv => whnf)
    | (revert hF; (with_reducible refine G31.step ?hx ?_); (case hx => exact rfl); intro v hF; conv => whnf)
    | with_reducible refine k_seq_ret ?_
    | with_reducible refine k_seq_exit ?_
    | with_reducible refine k_blk ?_
    | with_reducible refine k_blk_ret ?_
    | with_reducible refine k_blk_here ?_
    | ((with_reducible refine k_blk_out ?hx ?_); (case hx => exact rfl))
    | ((refine row_all ?hn ?_); (case hn => first | exact rfl | (simp; done) | (simp; omega)); conv => whnf)
    | ((with_reducible refine le_step ?hn ?_); (case hn => first | exact rfl | assumption | omega); conv => whnf)
    | ((refine ⟨?hx, ?_⟩); (case hx => exact ⟨rfl, Nat.le_of_ble_eq_true rfl, rfl⟩); conv => whnf)
    | ((with_reducible refine ex_step ?_); conv => whnf)
    | ((with_reducible refine both_T ?hx ?_); (case hx => first | exact rfl | assumption | exact notT (by assumption)); conv => whnf)
    | ((with_reducible refine both_F ?hx ?_); (case hx => first | exact rfl | assumption | exact notF (by assumption)); conv => whnf)
    | (revert hF; (with_reducible refine ite_step ?_ ?_) <;> (intro hc hF; conv => whnf))
    | ((with_reducible refine vc_condT ?hx ?_); (case hx => exact rfl))
    | ((with_reducible refine vc_condF ?hx ?_); (case hx => exact rfl))
    | (show retD _ _ _ _ _ _; conv => whnf)
    | ((refine ⟨?hx, trivial⟩); (case hx => (cases hF; exact rfl)))
    | ((refine ⟨?hx, ?_⟩); (case hx => decide); conv => whnf)
    | ((with_reducible refine k_seq ?_))
    | (have hF : (none : Option _) = some _ := hF; cases hF))
end
end Go.Vc
/-
  PLAIN LAWS OF CUT, 1: copies, checks.
-/
namespace Go.Vc
set_option linter.unusedVariables false
set_option linter.unnecessarySimpa false
set_option linter.unusedSimpArgs false
set_option linter.unusedSimpArgs false

theorem f52_eq {N : Nat} {a b c : Int} : f52 N a b c = some (decide (a ≤ b) && decide (b ≤ c)) := by
  unfold f52; cases decide (a ≤ b) <;> rfl
theorem f72_eq {N : Nat} {a b c : Int} : f72 N a b c = some (decide (b ≤ a) && decide (a ≤ c)) := by
  unfold f72; cases decide (b ≤ a) <;> rfl
theorem f56_eq {N : Nat} {a b c : Int} : f56 N a b c = some (decide (b ≤ a) && decide (a ≤ c)) := by
  unfold f56; rw [f72_eq]; rfl
/-- copies -/
theorem foldK_copy {α ρ : Type} {s : Nat} {k : List α → Option ρ} : ∀ (l o : List α) (i : Nat), (o.length + l.length) * s ≤ 140737488355328 → o.length + l.length ≤ 1000000 →
    foldK (fun _ x (o : List α) c => (app s o [x]).bind c) k i l o = k (o ++ l)
  | [], o, i, _, _ => by simp [foldK]
  | x :: r, o, i, h, h' => by
    simp only [foldK]
    simp only [List.length_cons] at h h'
    have h1 : (o.length + 1) * s ≤ (o.length + (r.length + 1)) * s := Nat.mul_le_mul_right s (by omega)
    rw [app_ok (by simpa using Nat.le_trans h1 h) (by simp; omega)]
    simp only [Option.bind_some]
    rw [foldK_copy r (o ++ [x]) (i + 1) (by simpa [Nat.add_assoc, Nat.add_comm 1] using h) (by simp; omega)]
    simp
theorem f14_eq {N : Nat} {a : Layout} (h : a.Labels.length ≤ 30) (hN : 30 < N) : f14 N a = some a := by
  show f14_3 a (f14_c6 a) N (0 : Int) [] = _
  have := loopL (l := a.Labels) (F := fun n s i => f14_3 a (f14_c6 a) n i s) (g := fun _ x (o : List Label) c => (app 32 o [x]).bind c) (k := f14_c6 a)
    (fun n s i x hx => by
      have hi := (List.getElem?_eq_some_iff.1 hx).1
      simp only [f14_3, f14_3b, ix_nat, hx, Option.bind_some, decide_eq_true (show (i : Int) < (a.Labels.length : Int) by omega), cond_true, W_nat (show i < 9223372036854775807 by omega)])
    (fun n s => by simp [f14_3, f14_3b]) N [] (by omega)
  refine this.trans ?_
  rw [foldK_copy _ _ _ (by simp; omega) (by simp; omega)]
  simp [f14_c6]
theorem f19_eq {N : Nat} {a : List Kind} (h : a.length ≤ 30) (hN : 30 < N) : f19 N a = some a := by
  show f19_3 a f19_c6 N [] (0 : Int) = _
  have := loopL (l := a) (F := fun n s i => f19_3 a f19_c6 n s i) (g := fun _ x (o : List Kind) c => (app 24 o [x]).bind c) (k := f19_c6)
    (fun n s i x hx => by
      have hi := (List.getElem?_eq_some_iff.1 hx).1
      simp only [f19_3, f19_3b, ix_nat, hx, Option.bind_some, decide_eq_true (show (i : Int) < (a.length : Int) by omega), cond_true, W_nat (show i < 9223372036854775807 by omega)])
    (fun n s => by simp [f19_3, f19_3b]) N [] (by omega)
  refine this.trans ?_
  rw [foldK_copy _ _ _ (by simp; omega) (by simp; omega)]
  simp [f19_c6]

/-! Checks. -/
def okLabel (L : Layout) (x : Label) : Option Int :=
  if x.W < 1 then some 3 else if x.H < 1 then some 3 else if ¬ (0 ≤ x.X ∧ x.X ≤ L.W) then some 16 else if ¬ (0 ≤ x.Y ∧ x.Y ≤ L.H) then some 16
  else if W (L.W - x.X) < x.W then some 16 else if W (L.H - x.Y) < x.H then some 16 else none
def meets2 (a b : Label) : Bool := decide (a.X < W (b.X + b.W)) && (decide (b.X < W (a.X + a.W)) && (decide (a.Y < W (b.Y + b.H)) && decide (b.Y < W (a.Y + a.H))))
/-- a label meets an earlier one -/
def clashes : List Label → List Label → Bool
  | _, [] => false
  | p, x :: r => p.any (meets2 x) || clashes (p ++ [x]) r
def checkS (L : Layout) : Int :=
  if ¬ (1 ≤ L.W ∧ L.W ≤ 12) then 3 else if ¬ (1 ≤ L.H ∧ L.H ≤ 12) then 3 else if 10 < (L.Labels.length : Int) then 2
  else (L.Labels.findSome? (okLabel L)).getD (bif clashes [] L.Labels then 12 else 0)

def orE {ρ : Type} : Option ρ → Option ρ → Option ρ
  | some e, _ => some e
  | none, k => k
/-- the first loop of both -/
theorem foldK_find {α ρ : Type} {f : α → Option ρ} {k : Option ρ} : ∀ (l : List α) (i : Nat), foldK (fun _ x (_ : Unit) c => orE (f x) (c ())) (fun _ => k) i l () = orE (l.findSome? f) k
  | [], i => rfl
  | x :: r, i => by
    simp only [foldK, List.findSome?_cons]
    cases f x with
    | some e => rfl
    | none => exact foldK_find r (i + 1)
theorem any_fold {α : Type} {f : α → Bool} {e : Int} {k : Option Int} : ∀ (l : List α) (i : Nat), foldK (fun _ x (_ : Unit) c => bif f x then some e else c ()) (fun _ => k) i l () = bif l.any f then some e else k
  | [], i => rfl
  | x :: r, i => by
    simp only [foldK, List.any_cons]
    cases f x with
    | true => rfl
    | false => simpa using any_fold r (i + 1)
theorem clash_fold {k : Option Int} : ∀ (l p : List Label), foldK (fun i x (_ : Unit) c => bif ((p ++ l).take i).any (meets2 x) then some (12 : Int) else c ()) (fun _ => k) p.length l () = bif clashes p l then some 12 else k
  | [], p => rfl
  | x :: r, p => by
    simp only [foldK, clashes, List.take_left']
    cases h : p.any (meets2 x) with
    | true => rfl
    | false =>
      have := clash_fold (k := k) r (p ++ [x])
      simp only [List.append_assoc, List.singleton_append, List.length_append, List.length_singleton] at this
      simpa using this
theorem f20_eq {N : Nat} {a : Layout} (h : a.Labels.length ≤ 30) (hN : 30 < N) : f20 N a = some (checkS a) := by
  have h17 : ∀ (i : Nat) (k1 : Option Int) (x3 : Label) (x4 : List Label), x4.length ≤ 30 → f20_17 a N (i : Int) k1 x3 x4 N (0 : Int) = bif x4.any (meets2 x3) then some 12 else k1 := by
    intro i k1 x3 x4 hx4
    have := loopL (l := x4) (F := fun n (_ : Unit) j => f20_17 a N (i : Int) k1 x3 x4 n j) (g := fun _ x (_ : Unit) c => bif meets2 x3 x then some (12 : Int) else c ()) (k := fun _ => k1)
      (fun n s j x hx => by
        have hi := (List.getElem?_eq_some_iff.1 hx).1
        simp only [f20_17, f20_17b, ix_nat, hx, Option.bind_some, decide_eq_true (show (j : Int) < (x4.length : Int) by omega), cond_true, W_nat (show j < 9223372036854775807 by omega), f53, f55, meets2]
        cases decide (x3.X < W (x.X + x.W)) <;> cases decide (x.X < W (x3.X + x3.W)) <;> cases decide (x3.Y < W (x.Y + x.H)) <;> cases decide (x.Y < W (x3.Y + x3.H)) <;> rfl)
      (fun n s => by simp [f20_17, f20_17b]) N () (by omega)
    exact this.trans (any_fold _ _)
  have h14 : f20_c13 a N = bif clashes [] a.Labels then some 12 else some 0 := by
    show f20_14 a N f20_c23 N (0 : Int) = _
    have := loopL (l := a.Labels) (F := fun n (_ : Unit) j => f20_14 a N f20_c23 n j) (g := fun i x (_ : Unit) c => bif (a.Labels.take i).any (meets2 x) then some (12 : Int) else c ()) (k := fun _ => f20_c23)
      (fun n s j x hx => by
        have hi := (List.getElem?_eq_some_iff.1 hx).1
        simp only [f20_14, f20_14b, joinK, ix_nat, hx, Option.bind_some, decide_eq_true (show (j : Int) < (a.Labels.length : Int) by omega), cond_true]
        rw [show sub a.Labels 0 (j : Int) = some (a.Labels.take j) from (sub_nat (a := 0) (by omega) (by omega)).trans (by simp)]
        simp only [Option.bind_some]
        rw [h17 j _ x _ (by simp; omega), f20_c22, W_nat (show j < 9223372036854775807 by omega)])
      (fun n s => by simp [f20_14, f20_14b]) N () (by omega)
    refine this.trans ?_
    exact clash_fold (k := f20_c23) a.Labels []
  have h6 : f20_6 a N (f20_c13 a N) N (0 : Int) = orE (a.Labels.findSome? (okLabel a)) (f20_c13 a N) := by
    have := loopL (l := a.Labels) (F := fun n (_ : Unit) j => f20_6 a N (f20_c13 a N) n j) (g := fun i x (_ : Unit) c => orE (okLabel a x) (c ())) (k := fun _ => f20_c13 a N)
      (fun n s j x hx => by
        have hi := (List.getElem?_eq_some_iff.1 hx).1
        simp only [orE, f20_6, f20_6b, ix_nat, hx, Option.bind_some, decide_eq_true (show (j : Int) < (a.Labels.length : Int) by omega), cond_true, W_nat (show j < 9223372036854775807 by omega), f52_eq, okLabel]
        by_cases c1 : x.W < 1
        · simp [c1, orE]
        by_cases c2 : x.H < 1
        · simp [c1, c2]
        by_cases c3 : 0 ≤ x.X ∧ x.X ≤ a.W
        · by_cases c4 : 0 ≤ x.Y ∧ x.Y ≤ a.H
          · by_cases c5 : W (a.W - x.X) < x.W
            · simp [c1, c2, c3, c4, c5]
            · by_cases c6 : W (a.H - x.Y) < x.H <;> simp [c1, c2, c3, c4, c5, c6]
          · have : (decide (0 ≤ x.Y) && decide (x.Y ≤ a.H)) = false := by simpa using c4
            simp [c1, c2, c3, c4, this]
        · have : (decide (0 ≤ x.X) && decide (x.X ≤ a.W)) = false := by simpa using c3
          simp [c1, c2, c3, this])
      (fun n s => by simp [f20_6, f20_6b]) N () (by omega)
    exact this.trans (foldK_find _ _)
  rw [h14] at h6
  unfold f20 checkS
  simp only [f52_eq, Option.bind_some, joinK, h14, h6]
  by_cases c1 : 1 ≤ a.W ∧ a.W ≤ 12
  · by_cases c2 : 1 ≤ a.H ∧ a.H ≤ 12
    · by_cases c3 : 10 < (a.Labels.length : Int)
      · simp [c1, c2, c3]
      · simp only [c1, c2, c3, decide_true, Bool.and_self, Bool.not_true, cond_false, decide_false, not_true_eq_false, if_false, and_self]
        cases a.Labels.findSome? (okLabel a) with
        | some e => rfl
        | none => cases clashes [] a.Labels <;> rfl
    · have : (decide (1 ≤ a.H) && decide (a.H ≤ 12)) = false := by simpa using c2
      simp [c1, c2, this]
  · have : (decide (1 ≤ a.W) && decide (a.W ≤ 12)) = false := by simpa using c1
    simp [c1, this]
theorem f57_eq {N : Nat} {x y : Label} : f57 N x y = some (meets2 x y) := by
  unfold f57 meets2
  cases decide (x.X < W (y.X + y.W)) <;> cases decide (y.X < W (x.X + x.W)) <;> cases decide (x.Y < W (y.Y + y.H)) <;> cases decide (y.Y < W (x.Y + x.H)) <;> rfl
theorem f21_eq {N : Nat} {a : Layout} (h : a.Labels.length ≤ 30) (hN : 30 < N) : f21 N a = some (checkS a) := by
  have h17 : ∀ (i : Nat) (k1 : Option Int) (x3 : Label), a.Labels[i]? = some x3 → f21_17 a N (i : Int) k1 N (0 : Int) = bif (a.Labels.take i).any (meets2 x3) then some 12 else k1 := by
    intro i k1 x3 hx3
    have hi3 := (List.getElem?_eq_some_iff.1 hx3).1
    have := loopL (l := a.Labels.take i) (F := fun n (_ : Unit) j => f21_17 a N (i : Int) k1 n j) (g := fun _ x (_ : Unit) c => bif meets2 x3 x then some (12 : Int) else c ()) (k := fun _ => k1)
      (fun n s j x hx => by
        have hi := (List.getElem?_eq_some_iff.1 hx).1
        have hj : j < i := by simp at hi; omega
        have hx' : a.Labels[j]? = some x := by rw [List.getElem?_take] at hx; simpa [hj] using hx
        simp only [f21_17, f21_17b, ix_nat, hx', hx3, Option.bind_some, decide_eq_true (show (j : Int) < (i : Int) by omega), cond_true, W_nat (show j < 9223372036854775807 by omega), f57_eq])
      (fun n s => by
        have : (a.Labels.take i).length = i := by simp; omega
        rw [this]; simp [f21_17, f21_17b]) N () (by simp; omega)
    exact this.trans (any_fold _ _)
  have h14 : f21_c13 a N = bif clashes [] a.Labels then some 12 else some 0 := by
    show f21_14 a N f21_c21 N (0 : Int) = _
    have := loopL (l := a.Labels) (F := fun n (_ : Unit) j => f21_14 a N f21_c21 n j) (g := fun i x (_ : Unit) c => bif (a.Labels.take i).any (meets2 x) then some (12 : Int) else c ()) (k := fun _ => f21_c21)
      (fun n s j x hx => by
        have hi := (List.getElem?_eq_some_iff.1 hx).1
        simp only [f21_14, f21_14b, joinK, decide_eq_true (show (j : Int) < (a.Labels.length : Int) by omega), cond_true]
        rw [h17 j _ x hx, f21_c15, W_nat (show j < 9223372036854775807 by omega)])
      (fun n s => by simp [f21_14, f21_14b]) N () (by omega)
    refine this.trans ?_
    exact clash_fold (k := f21_c21) a.Labels []
  have h6 : f21_6 a N (f21_c13 a N) N (0 : Int) = orE (a.Labels.findSome? (okLabel a)) (f21_c13 a N) := by
    have := loopL (l := a.Labels) (F := fun n (_ : Unit) j => f21_6 a N (f21_c13 a N) n j) (g := fun i x (_ : Unit) c => orE (okLabel a x) (c ())) (k := fun _ => f21_c13 a N)
      (fun n s j x hx => by
        have hi := (List.getElem?_eq_some_iff.1 hx).1
        simp only [orE, f21_6, f21_6b, ix_nat, hx, Option.bind_some, decide_eq_true (show (j : Int) < (a.Labels.length : Int) by omega), cond_true, W_nat (show j < 9223372036854775807 by omega), f56_eq, okLabel]
        by_cases c1 : x.W < 1
        · simp [c1, orE]
        by_cases c2 : x.H < 1
        · simp [c1, c2]
        by_cases c3 : 0 ≤ x.X ∧ x.X ≤ a.W
        · by_cases c4 : 0 ≤ x.Y ∧ x.Y ≤ a.H
          · by_cases c5 : W (a.W - x.X) < x.W
            · simp [c1, c2, c3, c4, c5]
            · by_cases c6 : W (a.H - x.Y) < x.H <;> simp [c1, c2, c3, c4, c5, c6]
          · have : (decide (0 ≤ x.Y) && decide (x.Y ≤ a.H)) = false := by simpa using c4
            simp [c1, c2, c3, c4, this]
        · have : (decide (0 ≤ x.X) && decide (x.X ≤ a.W)) = false := by simpa using c3
          simp [c1, c2, c3, this])
      (fun n s => by simp [f21_6, f21_6b]) N () (by omega)
    exact this.trans (foldK_find _ _)
  rw [h14] at h6
  unfold f21 checkS
  simp only [f56_eq, Option.bind_some, joinK, h14, h6]
  by_cases c1 : 1 ≤ a.W ∧ a.W ≤ 12
  · by_cases c2 : 1 ≤ a.H ∧ a.H ≤ 12
    · by_cases c3 : 10 < (a.Labels.length : Int)
      · simp [c1, c2, c3]
      · simp only [c1, c2, c3, decide_true, Bool.and_self, Bool.not_true, cond_false, decide_false, not_true_eq_false, if_false, and_self]
        cases a.Labels.findSome? (okLabel a) with
        | some e => rfl
        | none => cases clashes [] a.Labels <;> rfl
    · have : (decide (1 ≤ a.H) && decide (a.H ≤ 12)) = false := by simpa using c2
      simp [c1, c2, this]
  · have : (decide (1 ≤ a.W) && decide (a.W ≤ 12)) = false := by simpa using c1
    simp [c1, this]
end Go.Vc
/-
  PLAIN LAWS OF CUT, 2: kinds, worths.
-/
namespace Go.Vc
set_option linter.unusedVariables false
set_option linter.unnecessarySimpa false
set_option linter.unusedSimpArgs false
set_option linter.unusedSimpArgs false

def okKind (k : Kind) : Bool := (decide (1 ≤ k.W) && decide (k.W ≤ 12)) && (decide (1 ≤ k.H) && decide (k.H ≤ 12)) && (decide (0 ≤ k.Value) && decide (k.Value ≤ 1000))
def kindsS (l : List Kind) : Int := if (l.length : Int) = 0 then 1 else if 6 < (l.length : Int) then 2 else bif l.any (fun k => !okKind k) then 3 else 0
theorem f71_eq {N : Nat} {k : Kind} : f71 N k = some (!okKind k) := by
  unfold f71 okKind
  simp only [f52_eq, Option.bind_some]
  cases (decide (1 ≤ k.W) && decide (k.W ≤ 12)) <;> cases (decide (1 ≤ k.H) && decide (k.H ≤ 12)) <;> cases (decide (0 ≤ k.Value) && decide (k.Value ≤ 1000)) <;> rfl
theorem f48_eq {N : Nat} {l : List Kind} (h : l.length ≤ 30) (hN : 30 < N) : f48 N l = some (kindsS l) := by
  have h2 : f48_i501_i502000102_2 l N f48_i501_i502000102_c7 N (0 : Int) = bif l.any (fun k => !okKind k) then some 3 else some 0 := by
    have := loopL (l := l) (F := fun n (_ : Unit) j => f48_i501_i502000102_2 l N f48_i501_i502000102_c7 n j) (g := fun i x (_ : Unit) c => bif (!okKind x) then some (3 : Int) else c ()) (k := fun _ => f48_i501_i502000102_c7)
      (fun n s j x hx => by
        have hi := (List.getElem?_eq_some_iff.1 hx).1
        simp only [f48_i501_i502000102_2, f48_i501_i502000102_2b, ix_nat, hx, Option.bind_some, decide_eq_true (show (j : Int) < (l.length : Int) by omega), cond_true, W_nat (show j < 9223372036854775807 by omega), f71_eq, decide_eq_true (show (0 : Int) ≤ (j : Int) by omega)])
      (fun n s => by simp [f48_i501_i502000102_2, f48_i501_i502000102_2b]) N () (by omega)
    exact this.trans (any_fold _ _)
  unfold f48 kindsS
  simp only [joinK, h2]
  by_cases c1 : (l.length : Int) = 0
  · simp [c1]
  · by_cases c2 : 6 < (l.length : Int)
    · rw [if_neg c1, if_pos c2, decide_eq_false c1, decide_eq_true c2]; rfl
    · simp only [c1, c2, decide_false, cond_false, if_false]
      cases l.any (fun k => !okKind k) <;> rfl
theorem f50_eq {N : Nat} {l : List Kind} (h : l.length ≤ 30) (hN : 30 < N) : f50 N l = some (kindsS l) := by
  have h2 : f50_6 l N f50_c11 N (0 : Int) = bif l.any (fun k => !okKind k) then some 3 else some 0 := by
    have := loopL (l := l) (F := fun n (_ : Unit) j => f50_6 l N f50_c11 n j) (g := fun i x (_ : Unit) c => bif (!okKind x) then some (3 : Int) else c ()) (k := fun _ => f50_c11)
      (fun n s j x hx => by
        have hi := (List.getElem?_eq_some_iff.1 hx).1
        simp only [f50_6, f50_6b, ix_nat, hx, Option.bind_some, decide_eq_true (show (j : Int) < (l.length : Int) by omega), cond_true, W_nat (show j < 9223372036854775807 by omega), f56_eq, okKind]
        cases (decide (1 ≤ x.W) && decide (x.W ≤ 12)) <;> cases (decide (1 ≤ x.H) && decide (x.H ≤ 12)) <;> cases (decide (0 ≤ x.Value) && decide (x.Value ≤ 1000)) <;> rfl)
      (fun n s => by simp [f50_6, f50_6b]) N () (by omega)
    exact this.trans (any_fold _ _)
  unfold f50 kindsS
  simp only [joinK, h2]
  by_cases c1 : (l.length : Int) = 0
  · simp [c1]
  · by_cases c2 : 6 < (l.length : Int)
    · rw [if_neg c1, if_pos c2, decide_eq_false c1, decide_eq_true c2]; rfl
    · simp only [c1, c2, decide_false, cond_false, if_false]
      cases l.any (fun k => !okKind k) <;> rfl
/-- the greatest Value of a kind of a size, from a start on -/
def bestV (w h : Int) : List Kind → Int → Int
  | [], o => o
  | k :: r, o => if k.W = w ∧ k.H = h then bestV w h r (max o k.Value) else bestV w h r o
def hasV (w h : Int) (l : List Kind) : Bool := l.any fun k => decide (k.W = w) && decide (k.H = h)
theorem f49_fold {k : Int → Bool → Option (Int × Bool)} {w h : Int} : ∀ (l : List Kind) (i : Nat) (o : Int) (b : Bool),
    foldK (fun _ (x : Kind) (s : Int × Bool) c => if x.W = w ∧ x.H = h then c (max s.1 x.Value, true) else c s) (fun s => k s.1 s.2) i l (o, b) = k (bestV w h l o) (b || hasV w h l)
  | [], i, o, b => by simp [foldK, bestV, hasV]
  | x :: r, i, o, b => by
    simp only [foldK, bestV, hasV, List.any_cons]
    by_cases c : x.W = w ∧ x.H = h
    · simp only [c, and_self, if_true]
      rw [f49_fold r (i + 1)]
      simp [c]
    · simp only [c, if_false]
      rw [f49_fold r (i + 1)]
      have : (decide (x.W = w) && decide (x.H = h)) = false := by simpa using c
      rw [this, Bool.false_or]; rfl
theorem f49_eq {N : Nat} {w h : Int} {l : List Kind} (hl : l.length ≤ 30) (hN : 30 < N) : f49 N w h l = some (bestV w h l 0, hasV w h l) := by
  show f49_3 w h l f49_c8 N (0 : Int) false (0 : Int) = _
  have := loopL (l := l) (F := fun n (s : Int × Bool) j => f49_3 w h l f49_c8 n s.1 s.2 j) (g := fun _ (x : Kind) (s : Int × Bool) c => if x.W = w ∧ x.H = h then c (max s.1 x.Value, true) else c s) (k := fun s => f49_c8 s.1 s.2)
    (fun n s j x hx => by
      have hi := (List.getElem?_eq_some_iff.1 hx).1
      simp only [f49_3, f49_3b, ix_nat, hx, Option.bind_some, decide_eq_true (show (j : Int) < (l.length : Int) by omega), cond_true, W_nat (show j < 9223372036854775807 by omega)]
      by_cases c1 : x.W = w <;> by_cases c2 : x.H = h <;> simp [c1, c2])
    (fun n s => by simp [f49_3, f49_3b]) N (0, false) (by omega)
  refine this.trans ?_
  rw [f49_fold]
  simp [f49_c8]
theorem f51_fold {k : Int → Option Int} {w h : Int} : ∀ (l : List Kind) (i : Nat) (o : Int),
    foldK (fun _ (x : Kind) (s : Int) c => if x.W = w ∧ x.H = h then c (max s x.Value) else c s) k i l o = k (bestV w h l o)
  | [], i, o => by simp [foldK, bestV]
  | x :: r, i, o => by
    simp only [foldK, bestV]
    by_cases c : x.W = w ∧ x.H = h
    · simp only [c, and_self, if_true]; exact f51_fold r (i + 1) _
    · simp only [c, if_false]; exact f51_fold r (i + 1) _
theorem f51_eq {N : Nat} {w h : Int} {l : List Kind} (hl : l.length ≤ 30) (hN : 30 < N) : f51 N w h l = some (bestV w h l (-1)) := by
  show f51_3 w h l f51_c7 N (-1 : Int) (0 : Int) = _
  have := loopL (l := l) (F := fun n (s : Int) j => f51_3 w h l f51_c7 n s j) (g := fun _ (x : Kind) (s : Int) c => if x.W = w ∧ x.H = h then c (max s x.Value) else c s) (k := f51_c7)
    (fun n s j x hx => by
      have hi := (List.getElem?_eq_some_iff.1 hx).1
      simp only [f51_3, f51_3b, ix_nat, hx, Option.bind_some, decide_eq_true (show (j : Int) < (l.length : Int) by omega), cond_true, W_nat (show j < 9223372036854775807 by omega)]
      by_cases c1 : x.W = w <;> by_cases c2 : x.H = h <;> simp [c1, c2])
    (fun n s => by simp [f51_3, f51_3b]) N (-1) (by omega)
  refine this.trans ?_
  rw [f51_fold]
  simp [f51_c7]
theorem bestV_le {w h : Int} : ∀ (l : List Kind) (o : Int), o ≤ bestV w h l o
  | [], o => Int.le_refl _
  | k :: r, o => by
    simp only [bestV]
    split
    · exact Int.le_trans (Int.le_max_left _ _) (bestV_le r _)
    · exact bestV_le r o
theorem bestV_ub {w h : Int} : ∀ (l : List Kind) (o : Int), (∀ k, k ∈ l → okKind k = true) → o ≤ 1000 → bestV w h l o ≤ 1000
  | [], o, _, ho => ho
  | k :: r, o, hk, ho => by
    simp only [bestV]
    have := hk k (by simp)
    simp only [okKind, Bool.and_eq_true, decide_eq_true_eq] at this
    split
    · exact bestV_ub r _ (fun k hk' => hk k (by simp [hk'])) (by omega)
    · exact bestV_ub r _ (fun k hk' => hk k (by simp [hk'])) ho
/-- with good kinds: the two starts agree where there is a kind of the size -/
theorem bestV_neg {w h : Int} : ∀ (l : List Kind), (∀ k, k ∈ l → okKind k = true) → bestV w h l (-1) = bif hasV w h l then bestV w h l 0 else -1
  | [], _ => by simp [bestV, hasV]
  | k :: r, hk => by
    have h1 := hk k (by simp)
    simp only [okKind, Bool.and_eq_true, decide_eq_true_eq] at h1
    simp only [bestV, hasV, List.any_cons]
    by_cases c : k.W = w ∧ k.H = h
    · have e1 : max (-1) k.Value = k.Value := by omega
      have e2 : max 0 k.Value = k.Value := by omega
      simp [c, e1, e2]
    · have : (decide (k.W = w) && decide (k.H = h)) = false := by simpa using c
      rw [this, Bool.false_or, if_neg c, if_neg c]
      exact bestV_neg r fun k hk' => hk k (by simp [hk'])
/-- what labels are worth -/
def worthL (ks : List Kind) : List Label → Int → Option Int
  | [], s => some s
  | x :: r, s => bif hasV x.W x.H ks then worthL ks r (W (s + bestV x.W x.H ks 0)) else none
def worthR : Option Int → Int × Int
  | some s => (s, 0)
  | none => (0, 13)
def worthS (a : Layout) (ks : List Kind) : Int × Int :=
  if checkS a = 0 then (if kindsS ks = 0 then worthR (worthL ks a.Labels 0) else (0, kindsS ks)) else (0, checkS a)
theorem worth_fold {ks : List Kind} : ∀ (l : List Label) (i : Nat) (s : Int),
    foldK (fun _ (x : Label) (s : Int) c => bif hasV x.W x.H ks then c (W (s + bestV x.W x.H ks 0)) else some ((0 : Int), (13 : Int))) (fun s => some (s, (0 : Int))) i l s = some (worthR (worthL ks l s))
  | [], i, s => rfl
  | x :: r, i, s => by
    simp only [foldK, worthL]
    cases hasV x.W x.H ks with
    | true => exact worth_fold r (i + 1) _
    | false => rfl
theorem kindsS_ok {ks : List Kind} (h : kindsS ks = 0) : ∀ k, k ∈ ks → okKind k = true := by
  unfold kindsS at h
  split at h
  · cases h
  · split at h
    · cases h
    · cases hh : ks.any (fun k => !okKind k) with
      | true => rw [hh] at h; cases h
      | false =>
        intro k hk
        have := List.any_eq_false.1 hh k hk
        simpa using this
theorem f17_eq {N : Nat} {a : Layout} {ks : List Kind} (h : a.Labels.length ≤ 30) (hk : ks.length ≤ 30) (hN : 30 < N) : f17 N a ks = some (worthS a ks) := by
  have h8 : f17_8 a ks N f17_c15 N (0 : Int) (0 : Int) = some (worthR (worthL ks a.Labels 0)) := by
    have := loopL (l := a.Labels) (F := fun n (s : Int) j => f17_8 a ks N f17_c15 n s j) (g := fun _ (x : Label) (s : Int) c => bif hasV x.W x.H ks then c (W (s + bestV x.W x.H ks 0)) else some ((0 : Int), (13 : Int))) (k := f17_c15)
      (fun n s j x hx => by
        have hi := (List.getElem?_eq_some_iff.1 hx).1
        simp only [f17_8, f17_8b, ix_nat, hx, Option.bind_some, decide_eq_true (show (j : Int) < (a.Labels.length : Int) by omega), cond_true, W_nat (show j < 9223372036854775807 by omega), f49_eq hk hN]
        cases hasV x.W x.H ks <;> rfl)
      (fun n s => by simp [f17_8, f17_8b]) N 0 (by omega)
    exact this.trans (worth_fold _ _ _)
  unfold f17 worthS
  simp only [f20_eq h hN, f48_eq hk hN, Option.bind_some, joinK, f17_c4, h8]
  by_cases c1 : checkS a = 0
  · by_cases c2 : kindsS ks = 0 <;> simp [c1, c2]
  · simp [c1]
theorem f18_eq {N : Nat} {a : Layout} {ks : List Kind} (h : a.Labels.length ≤ 30) (hk : ks.length ≤ 30) (hN : 30 < N) : f18 N a ks = some (worthS a ks) := by
  have h8 : kindsS ks = 0 → f18_8 a ks N f18_c14 N (0 : Int) (0 : Int) = some (worthR (worthL ks a.Labels 0)) := by
    intro hok
    have hok := kindsS_ok hok
    have := loopL (l := a.Labels) (F := fun n (s : Int) j => f18_8 a ks N f18_c14 n s j) (g := fun _ (x : Label) (s : Int) c => bif hasV x.W x.H ks then c (W (s + bestV x.W x.H ks 0)) else some ((0 : Int), (13 : Int))) (k := f18_c14)
      (fun n s j x hx => by
        have hi := (List.getElem?_eq_some_iff.1 hx).1
        simp only [f18_8, f18_8b, ix_nat, hx, Option.bind_some, decide_eq_true (show (j : Int) < (a.Labels.length : Int) by omega), cond_true, W_nat (show j < 9223372036854775807 by omega), f51_eq hk hN, bestV_neg ks hok]
        cases hv : hasV x.W x.H ks with
        | false => rfl
        | true =>
          have := bestV_le (w := x.W) (h := x.H) ks 0
          simp [show ¬ bestV x.W x.H ks 0 < 0 by omega])
      (fun n s => by simp [f18_8, f18_8b]) N 0 (by omega)
    exact this.trans (worth_fold _ _ _)
  unfold f18 worthS
  simp only [f21_eq h hN, f50_eq hk hN, Option.bind_some, joinK, f18_c4]
  by_cases c1 : checkS a = 0
  · by_cases c2 : kindsS ks = 0
    · simp [c1, c2, h8 c2]
    · simp [c1, c2]
  · simp [c1]
end Go.Vc
namespace Go.Vc
open Go.Proofs
set_option linter.unusedVariables false
set_option linter.unnecessarySimpa false
set_option linter.unusedSimpArgs false
def f16 (N : Nat) (a0 : Layout) : Option ((List Cut) × Int) :=
 (f21 N a0).bind fun x1 =>
 bif decide (¬ x1 = (0 : Int)) then (some ([], x1))
 else ((f47 N a0).bind fun x2 =>
 (f46 N a0.Labels x2).bind fun x3 =>
 some (x3, (0 : Int)))
end Go.Vc
/-
  PLAIN LAWS OF CUT, 3: cuts of pieces.
-/
namespace Go.Vc
set_option linter.unusedVariables false
set_option linter.unnecessarySimpa false
set_option linter.unusedSimpArgs false
set_option linter.unusedSimpArgs false

/-- a label with sides, in a piece -/
structure Fits (p x : Label) : Prop where
  w : 1 ≤ x.W
  h : 1 ≤ x.H
  x0 : p.X ≤ x.X
  y0 : p.Y ≤ x.Y
  x1 : x.X + x.W ≤ p.X + p.W
  y1 : x.Y + x.H ≤ p.Y + p.H
/-- a piece of a sheet -/
structure Small (p : Label) : Prop where
  x0 : 0 ≤ p.X
  y0 : 0 ≤ p.Y
  x1 : p.X + p.W ≤ 12
  y1 : p.Y + p.H ≤ 12
  w : 0 ≤ p.W
  h : 0 ≤ p.H
def lo (c : Cut) (x : Label) : Int := bif c.Up then x.X else x.Y
def hi (c : Cut) (x : Label) : Int := bif c.Up then x.X + x.W else x.Y + x.H
def before (c : Cut) (x : Label) : Bool := decide (hi c x ≤ c.At)
def behind (c : Cut) (x : Label) : Bool := decide (c.At ≤ lo c x)
def inner (c : Cut) (p : Label) : Bool := decide (lo c p + 1 ≤ c.At) && decide (c.At ≤ hi c p - 1)
def isCut (p : Label) (l : List Label) (c : Cut) : Bool := inner c p && (l.all (fun x => before c x || behind c x) && (l.any (before c) && l.any (fun x => !before c x)))
def half1 (p : Label) (c : Cut) : Label := bif c.Up then ⟨p.X, p.Y, c.At - p.X, p.H⟩ else ⟨p.X, p.Y, p.W, c.At - p.Y⟩
def half2 (p : Label) (c : Cut) : Label := bif c.Up then ⟨c.At, p.Y, p.X + p.W - c.At, p.H⟩ else ⟨p.X, c.At, p.W, p.Y + p.H - c.At⟩

theorem before_iff {c : Cut} {x : Label} : before c x = true ↔ hi c x ≤ c.At := by unfold before; exact decide_eq_true_iff
theorem behind_iff {c : Cut} {x : Label} : behind c x = true ↔ c.At ≤ lo c x := by unfold behind; exact decide_eq_true_iff
theorem before_not {c : Cut} {x : Label} : before c x = false ↔ ¬ hi c x ≤ c.At := by unfold before; exact decide_eq_false_iff_not
theorem W_in {n : Int} (h : -1000000 ≤ n) (h2 : n ≤ 1000000) : W n = n := W_of (by omega) (by omega)
theorem lt_hi {p x : Label} (h : Fits p x) (c : Cut) : lo c x < hi c x := by
  unfold lo hi; have := h.w; have := h.h; cases c.Up <;> simp only [cond_true, cond_false] <;> omega
theorem not_both {p x : Label} (h : Fits p x) {c : Cut} (hb : before c x = true) : behind c x = false := by
  have := lt_hi h c
  simp only [before, behind, decide_eq_true_eq, decide_eq_false_iff_not] at *; omega

theorem isCut_perm {p : Label} {l l' : List Label} (h : l.Perm l') (c : Cut) : isCut p l c = isCut p l' c := by
  unfold isCut
  rw [h.all_eq, h.any_eq, h.any_eq]

/-! divide -/
theorem set_swap_perm {α : Type} {l : List α} {i j : Nat} {x y : α} (hi : l[i]? = some x) (hj : l[j]? = some y) : ((l.set i y).set j x).Perm l := by
  obtain ⟨hi', rfl⟩ := List.getElem?_eq_some_iff.1 hi
  obtain ⟨hj', rfl⟩ := List.getElem?_eq_some_iff.1 hj
  have h := Array.swap_perm (xs := l.toArray) (i := i) (j := j) (by simpa using hi') (by simpa using hj')
  have h2 := Array.perm_iff_toList_perm.1 h
  simpa [Array.swap_def] using h2
structure DivInv (c : Cut) (l : List Label) (i : Nat) (s : List Label × Nat) : Prop where
  perm : s.1.Perm l
  ni : s.2 ≤ i
  il : i ≤ l.length
  rest : ∀ j, i ≤ j → s.1[j]? = l[j]?
  bef : ∀ (j : Nat) x, j < s.2 → s.1[j]? = some x → before c x = true
  aft : ∀ (j : Nat) x, s.2 ≤ j → j < i → s.1[j]? = some x → before c x = false ∧ behind c x = true
theorem DivInv.init {c : Cut} {l : List Label} : DivInv c l 0 (l, 0) := ⟨.refl _, Nat.le_refl _, Nat.zero_le _, fun _ _ => rfl, fun j x h => by omega, fun j x h h' => by omega⟩
theorem DivInv.step_aft {c : Cut} {l : List Label} {i : Nat} {s : List Label × Nat} (h : DivInv c l i s) {x : Label} (hx : l[i]? = some x) (hb : before c x = false) (hb' : behind c x = true) : DivInv c l (i + 1) s :=
  { perm := h.perm, ni := by have := h.ni; omega, il := (List.getElem?_eq_some_iff.1 hx).1, rest := fun j hj => h.rest j (by omega), bef := h.bef,
    aft := fun j y hj hj' hy => by
      by_cases he : j = i
      · subst he
        rw [h.rest j (Nat.le_refl _), hx] at hy
        cases hy; exact ⟨hb, hb'⟩
      · exact h.aft j y hj (by omega) hy }
theorem DivInv.step_bef {c : Cut} {l : List Label} {i : Nat} {s : List Label × Nat} (h : DivInv c l i s) {x y : Label} (hx : l[i]? = some x) (hy : s.1[s.2]? = some y) (hb : before c x = true) : DivInv c l (i + 1) ((s.1.set i y).set s.2 x, s.2 + 1) := by
  have hxi : s.1[i]? = some x := by rw [h.rest i (Nat.le_refl _), hx]
  have hil := (List.getElem?_eq_some_iff.1 hxi).1
  have hnl := (List.getElem?_eq_some_iff.1 hy).1
  have hni := h.ni
  refine { perm := (set_swap_perm hxi hy).trans h.perm, ni := by simp only; omega, il := (List.getElem?_eq_some_iff.1 hx).1, rest := fun j hj => ?_, bef := fun j z hj hz => ?_, aft := fun j z hj hj' hz => ?_ }
  · simp only [List.getElem?_set, List.length_set]
    rw [if_neg (by omega), if_neg (by omega)]
    exact h.rest j (by omega)
  · simp only [List.getElem?_set, List.length_set] at hz
    by_cases he : s.2 = j
    · rw [if_pos he, if_pos hnl] at hz; cases hz; exact hb
    · rw [if_neg he, if_neg (by simp only at hj; omega)] at hz
      exact h.bef j z (by simp only at hj; omega) hz
  · simp only [List.getElem?_set, List.length_set] at hz
    simp only at hj
    rw [if_neg (by omega)] at hz
    by_cases he : i = j
    · rw [if_pos he, if_pos hil] at hz
      cases hz
      exact h.aft s.2 y (Nat.le_refl _) (by omega) hy
    · rw [if_neg he] at hz
      exact h.aft j z (by omega) (by omega) hz
/-- what divide answers -/
structure DivOK (p : Label) (l : List Label) (c : Cut) (r : Piece × Piece × Bool) : Prop where
  is : r.2.2 = isCut p l c
  l1 : isCut p l c = true → r.1.Label_ = half1 p c
  l2 : isCut p l c = true → r.2.1.Label_ = half2 p c
  p1 : isCut p l c = true → r.1.labels.Perm (l.filter (before c))
  p2 : isCut p l c = true → r.2.1.labels.Perm (l.filter fun x => !before c x)
theorem DivInv.fin {c : Cut} {l : List Label} {s : List Label × Nat} (h : DivInv c l l.length s) : (s.1.take s.2).Perm (l.filter (before c)) ∧ (s.1.drop s.2).Perm (l.filter fun x => !before c x) ∧
    l.all (fun x => before c x || behind c x) = true ∧ l.any (before c) = decide (0 < s.2) ∧ l.any (fun x => !before c x) = decide (s.2 < s.1.length) := by
  have hlen := h.perm.length_eq
  have hni := h.ni
  have t1 : ∀ x, x ∈ s.1.take s.2 → before c x = true := by
    intro x hx
    obtain ⟨j, hj, rfl⟩ := List.getElem_of_mem hx
    simp only [List.length_take] at hj
    exact h.bef j _ (by omega) (by simp)
  have t2 : ∀ x, x ∈ s.1.drop s.2 → before c x = false ∧ behind c x = true := by
    intro x hx
    obtain ⟨j, hj, rfl⟩ := List.getElem_of_mem hx
    simp only [List.length_drop] at hj
    exact h.aft (s.2 + j) _ (by omega) (by omega) (by simp)
  have f1 : s.1.filter (before c) = s.1.take s.2 := by
    conv => lhs; rw [← List.take_append_drop s.2 s.1]
    rw [List.filter_append, List.filter_eq_self.2 t1, List.filter_eq_nil_iff.2 (fun x hx => by rw [(t2 x hx).1]; simp), List.append_nil]
  have f2 : s.1.filter (fun x => !before c x) = s.1.drop s.2 := by
    conv => lhs; rw [← List.take_append_drop s.2 s.1]
    rw [List.filter_append, List.filter_eq_nil_iff.2 (fun x hx => by rw [t1 x hx]; simp), List.filter_eq_self.2 (fun x hx => by rw [(t2 x hx).1]; rfl), List.nil_append]
  have g1 := (h.perm.filter (before c))
  have g2 := (h.perm.filter fun x => !before c x)
  rw [f1] at g1; rw [f2] at g2
  refine ⟨g1, g2, ?_, ?_, ?_⟩
  · rw [← h.perm.all_eq, List.all_eq_true]
    intro x hx
    rw [← List.take_append_drop s.2 s.1, List.mem_append] at hx
    rcases hx with hx | hx
    · rw [t1 x hx]; rfl
    · rw [(t2 x hx).2]; simp
  · rw [← h.perm.any_eq, Bool.eq_iff_iff, List.any_eq_true, decide_eq_true_eq]
    constructor
    · rintro ⟨x, hx, hb⟩
      have : x ∈ s.1.filter (before c) := List.mem_filter.2 ⟨hx, hb⟩
      rw [f1] at this
      have := List.length_pos_of_mem this
      simp only [List.length_take] at this; omega
    · intro hp
      have hl : 0 < s.1.length := by omega
      exact ⟨s.1[0], List.getElem_mem hl, h.bef 0 _ hp (by simp)⟩
  · rw [← h.perm.any_eq, Bool.eq_iff_iff, List.any_eq_true, decide_eq_true_eq]
    constructor
    · rintro ⟨x, hx, hb⟩
      have : x ∈ s.1.filter (fun x => !before c x) := List.mem_filter.2 ⟨hx, hb⟩
      rw [f2] at this
      have := List.length_pos_of_mem this
      simp only [List.length_drop] at this; omega
    · intro hp
      exact ⟨s.1[s.2], List.getElem_mem hp, by rw [(h.aft s.2 _ (Nat.le_refl _) (by omega) (List.getElem?_eq_getElem hp)).1]; rfl⟩
theorem f53_eq {N : Nat} {x : Label} : f53 N x = some (x.X, W (x.X + x.W)) := rfl
theorem f55_eq {N : Nat} {x : Label} : f55 N x = some (x.Y, W (x.Y + x.H)) := rfl
theorem f69_up {N : Nat} {p : Label} {l : List Label} {a : Int} (hs : Small p) (hf : ∀ x, x ∈ l → Fits p x) (hl : l.length ≤ 30) (hN : 30 < N) : ∃ r, f69 N ⟨p, l⟩ ⟨true, a⟩ = some r ∧ DivOK p l ⟨true, a⟩ r := by
  have s1 := hs.x0; have s2 := hs.y0; have s3 := hs.x1; have s4 := hs.y1; have s5 := hs.w; have s6 := hs.h
  unfold f69
  simp only [cond_true, f53_eq, Option.bind_some, f52_eq, joinK]
  rw [W_in (n := p.X + p.W) (by omega) (by omega), W_in (n := p.X + 1) (by omega) (by omega), W_in (n := p.X + p.W - 1) (by omega) (by omega)]
  have hin : inner ⟨true, a⟩ p = (decide (p.X + 1 ≤ a) && decide (a ≤ p.X + p.W - 1)) := rfl
  cases hb0 : (decide (p.X + 1 ≤ a) && decide (a ≤ p.X + p.W - 1)) with
  | false =>
    have hno : isCut p l ⟨true, a⟩ = false := by unfold isCut; rw [hin, hb0]; rfl
    refine ⟨_, rfl, ⟨hno.symm, ?_, ?_, ?_, ?_⟩⟩ <;> (intro h; rw [hno] at h; cases h)
  | true =>
    simp only [Bool.not_true, cond_false]
    have ha : p.X + 1 ≤ a ∧ a ≤ p.X + p.W - 1 := by rw [Bool.and_eq_true, decide_eq_true_iff, decide_eq_true_iff] at hb0; exact hb0
    clear hb0
    have hb0 : (decide (p.X + 1 ≤ a) && decide (a ≤ p.X + p.W - 1)) = true := by rw [decide_eq_true ha.1, decide_eq_true ha.2]; rfl
    rw [demB_same (fun h => by subst h; rfl), app_ok (by simp; omega) (by simp; omega)]
    simp only [Option.bind_some, List.nil_append]
    show ∃ r, f69_8 ⟨p, l⟩ ⟨true, a⟩ N l (f69_c17 ⟨p, l⟩ ⟨true, a⟩) N l ((0 : Nat) : Int) ((0 : Nat) : Int) = some r ∧ _
    refine loopI (F := fun m (s : List Label × Nat) i => f69_8 ⟨p, l⟩ ⟨true, a⟩ N l (f69_c17 ⟨p, l⟩ ⟨true, a⟩) m s.1 (s.2 : Int) i) l.length (fun i s => DivInv ⟨true, a⟩ l i s) (DivOK p l ⟨true, a⟩) ?_ ?_ N (l, 0) 0 DivInv.init (Nat.zero_le _) (by omega)
    · intro m s i hinv hil
      have hx : s.1[i]? = some l[i] := by rw [hinv.rest i (Nat.le_refl _)]; simp [hil]
      have hlen := hinv.perm.length_eq
      have hni := hinv.ni
      generalize hxx : l[i] = x at hx
      have hxl : l[i]? = some x := by rw [← hxx]; simp [hil]
      have hfx := hf x (List.mem_of_getElem? hxl)
      have t1 := hfx.w; have t2 := hfx.h; have t3 := hfx.x0; have t4 := hfx.y0; have t5 := hfx.x1; have t6 := hfx.y1
      have hW : W (x.X + x.W) = x.X + x.W := W_in (by omega) (by omega)
      simp only [f69_8, f69_8b, decide_eq_true (show (i : Int) < (l.length : Int) by omega), cond_true, ix_nat, hx, Option.bind_some, f53_eq, joinK, f69_c13, hW]
      by_cases c1 : x.X < a ∧ a < x.X + x.W
      · left
        have hno : isCut p l ⟨true, a⟩ = false := by
          have : (l.all fun x => before ⟨true, a⟩ x || behind ⟨true, a⟩ x) = false := by
            rw [List.all_eq_false]
            refine ⟨x, List.mem_of_getElem? hxl, ?_⟩
            simp only [Bool.or_eq_true, before_iff, behind_iff, lo, hi, cond_true]; omega
          unfold isCut; rw [this]; simp
        simp only [c1.1, c1.2, decide_true, cond_true]
        refine ⟨_, rfl, ⟨hno.symm, ?_, ?_, ?_, ?_⟩⟩ <;> (intro h; rw [hno] at h; cases h)
      · right
        have hgo : ∀ (A B : Option (Piece × Piece × Bool)), (bif decide (x.X < a) then bif decide (a < x.X + x.W) then A else B else B) = B := by
          intro A B
          by_cases d1 : x.X < a
          · have d2 : ¬ a < x.X + x.W := fun h => c1 ⟨d1, h⟩
            simp [d1, d2]
          · simp [d1]
        rw [hgo]
        by_cases c2 : x.X + x.W ≤ a
        · have hn : s.1[s.2]? = some (s.1[s.2]'(by omega)) := List.getElem?_eq_getElem _
          generalize s.1[s.2]'(by omega) = y at hn
          refine ⟨((s.1.set i y).set s.2 x, s.2 + 1), hinv.step_bef hxl hn (by simp [before, hi, c2]), ?_⟩
          have e1 : setx s.1 (i : Int) y = some (s.1.set i y) := by unfold setx; rw [if_pos ⟨by omega, by omega⟩]; simp
          have e2 : setx (s.1.set i y) (s.2 : Int) x = some ((s.1.set i y).set s.2 x) := by unfold setx; rw [if_pos ⟨by omega, by simp; omega⟩]; simp
          have e3 : ∃ z, (s.1.set i y)[s.2]? = some z := ⟨_, List.getElem?_eq_getElem (by simp; omega)⟩
          obtain ⟨z, e3⟩ := e3
          simp only [c2, decide_true, cond_true, hn, hx, Option.bind_some, e1, ix_nat, e3, e2, W_nat (show s.2 < 9223372036854775807 by omega), W_nat (show i < 9223372036854775807 by omega)]
        · refine ⟨s, hinv.step_aft hxl (by simp only [before_not, hi, cond_true]; omega) (by simp only [behind_iff, lo, cond_true]; by_cases d : x.X < a <;> omega), ?_⟩
          simp only [c2, decide_false, cond_false, W_nat (show i < 9223372036854775807 by omega)]
    · intro m s hinv
      have hlen := hinv.perm.length_eq
      have hni := hinv.ni
      obtain ⟨q1, q2, q3, q4, q5⟩ := hinv.fin
      simp only [f69_8, f69_8b, show decide ((l.length : Int) < (l.length : Int)) = false by simp, cond_false, f69_c17]
      rw [show sub s.1 0 (s.2 : Int) = some (s.1.take s.2) from (sub_nat (a := 0) (by omega) (by omega)).trans (by simp), sub_nat (by omega) (Nat.le_refl _)]
      rw [W_in (n := p.X + p.W) (by omega) (by omega), W_in (n := a - p.X) (by omega) (by omega), W_in (n := p.X + p.W - a) (by omega) (by omega)]
      have his : isCut p l ⟨true, a⟩ = (decide (0 < s.2) && decide (s.2 < s.1.length)) := by
        unfold isCut; rw [hin, hb0, q3, q4, q5]; simp
      have hd1 : (s.1.take s.1.length).drop s.2 = s.1.drop s.2 := by rw [List.take_length]
      simp only [Option.bind_some, hd1]
      by_cases d : 0 < s.2
      · simp only [show decide ((0 : Int) < (s.2 : Int)) = true by simp; omega, cond_true]
        refine ⟨_, rfl, ⟨?_, fun _ => rfl, fun _ => rfl, fun _ => q1, fun _ => q2⟩⟩
        rw [his]; simp [d]
      · simp only [show decide ((0 : Int) < (s.2 : Int)) = false by simp; omega, cond_false]
        refine ⟨_, rfl, ⟨?_, fun _ => rfl, fun _ => rfl, fun _ => q1, fun _ => q2⟩⟩
        rw [his]; simp [d]
theorem f69_lie {N : Nat} {p : Label} {l : List Label} {a : Int} (hs : Small p) (hf : ∀ x, x ∈ l → Fits p x) (hl : l.length ≤ 30) (hN : 30 < N) : ∃ r, f69 N ⟨p, l⟩ ⟨false, a⟩ = some r ∧ DivOK p l ⟨false, a⟩ r := by
  have s1 := hs.x0; have s2 := hs.y0; have s3 := hs.x1; have s4 := hs.y1; have s5 := hs.w; have s6 := hs.h
  unfold f69
  simp only [cond_false, f55_eq, Option.bind_some, f52_eq, joinK]
  rw [W_in (n := p.Y + p.H) (by omega) (by omega), W_in (n := p.Y + 1) (by omega) (by omega), W_in (n := p.Y + p.H - 1) (by omega) (by omega)]
  have hin : inner ⟨false, a⟩ p = (decide (p.Y + 1 ≤ a) && decide (a ≤ p.Y + p.H - 1)) := rfl
  cases hb0 : (decide (p.Y + 1 ≤ a) && decide (a ≤ p.Y + p.H - 1)) with
  | false =>
    have hno : isCut p l ⟨false, a⟩ = false := by unfold isCut; rw [hin, hb0]; rfl
    refine ⟨_, rfl, ⟨hno.symm, ?_, ?_, ?_, ?_⟩⟩ <;> (intro h; rw [hno] at h; cases h)
  | true =>
    simp only [Bool.not_true, cond_false]
    have ha : p.Y + 1 ≤ a ∧ a ≤ p.Y + p.H - 1 := by rw [Bool.and_eq_true, decide_eq_true_iff, decide_eq_true_iff] at hb0; exact hb0
    clear hb0
    have hb0 : (decide (p.Y + 1 ≤ a) && decide (a ≤ p.Y + p.H - 1)) = true := by rw [decide_eq_true ha.1, decide_eq_true ha.2]; rfl
    rw [demB_same (fun h => by subst h; rfl), app_ok (by simp; omega) (by simp; omega)]
    simp only [Option.bind_some, List.nil_append]
    show ∃ r, f69_8_1 ⟨p, l⟩ ⟨false, a⟩ N l (f69_c17_1 ⟨p, l⟩ ⟨false, a⟩) N l ((0 : Nat) : Int) ((0 : Nat) : Int) = some r ∧ _
    refine loopI (F := fun m (s : List Label × Nat) i => f69_8_1 ⟨p, l⟩ ⟨false, a⟩ N l (f69_c17_1 ⟨p, l⟩ ⟨false, a⟩) m s.1 (s.2 : Int) i) l.length (fun i s => DivInv ⟨false, a⟩ l i s) (DivOK p l ⟨false, a⟩) ?_ ?_ N (l, 0) 0 DivInv.init (Nat.zero_le _) (by omega)
    · intro m s i hinv hil
      have hx : s.1[i]? = some l[i] := by rw [hinv.rest i (Nat.le_refl _)]; simp [hil]
      have hlen := hinv.perm.length_eq
      have hni := hinv.ni
      generalize hxx : l[i] = x at hx
      have hxl : l[i]? = some x := by rw [← hxx]; simp [hil]
      have hfx := hf x (List.mem_of_getElem? hxl)
      have t1 := hfx.w; have t2 := hfx.h; have t3 := hfx.x0; have t4 := hfx.y0; have t5 := hfx.x1; have t6 := hfx.y1
      have hW : W (x.Y + x.H) = x.Y + x.H := W_in (by omega) (by omega)
      simp only [f69_8_1, f69_8_1b, decide_eq_true (show (i : Int) < (l.length : Int) by omega), cond_true, ix_nat, hx, Option.bind_some, f55_eq, joinK, f69_c13_1, hW]
      by_cases c1 : x.Y < a ∧ a < x.Y + x.H
      · left
        have hno : isCut p l ⟨false, a⟩ = false := by
          have : (l.all fun x => before ⟨false, a⟩ x || behind ⟨false, a⟩ x) = false := by
            rw [List.all_eq_false]
            refine ⟨x, List.mem_of_getElem? hxl, ?_⟩
            simp only [Bool.or_eq_true, before_iff, behind_iff, lo, hi, cond_false]; omega
          unfold isCut; rw [this]; simp
        simp only [c1.1, c1.2, decide_true, cond_true]
        refine ⟨_, rfl, ⟨hno.symm, ?_, ?_, ?_, ?_⟩⟩ <;> (intro h; rw [hno] at h; cases h)
      · right
        have hgo : ∀ (A B : Option (Piece × Piece × Bool)), (bif decide (x.Y < a) then bif decide (a < x.Y + x.H) then A else B else B) = B := by
          intro A B
          by_cases d1 : x.Y < a
          · have d2 : ¬ a < x.Y + x.H := fun h => c1 ⟨d1, h⟩
            simp [d1, d2]
          · simp [d1]
        rw [hgo]
        by_cases c2 : x.Y + x.H ≤ a
        · have hn : s.1[s.2]? = some (s.1[s.2]'(by omega)) := List.getElem?_eq_getElem _
          generalize s.1[s.2]'(by omega) = y at hn
          refine ⟨((s.1.set i y).set s.2 x, s.2 + 1), hinv.step_bef hxl hn (by simp [before, hi, c2]), ?_⟩
          have e1 : setx s.1 (i : Int) y = some (s.1.set i y) := by unfold setx; rw [if_pos ⟨by omega, by omega⟩]; simp
          have e2 : setx (s.1.set i y) (s.2 : Int) x = some ((s.1.set i y).set s.2 x) := by unfold setx; rw [if_pos ⟨by omega, by simp; omega⟩]; simp
          have e3 : ∃ z, (s.1.set i y)[s.2]? = some z := ⟨_, List.getElem?_eq_getElem (by simp; omega)⟩
          obtain ⟨z, e3⟩ := e3
          simp only [c2, decide_true, cond_true, hn, hx, Option.bind_some, e1, ix_nat, e3, e2, W_nat (show s.2 < 9223372036854775807 by omega), W_nat (show i < 9223372036854775807 by omega)]
        · refine ⟨s, hinv.step_aft hxl (by simp only [before_not, hi, cond_false]; omega) (by simp only [behind_iff, lo, cond_false]; by_cases d : x.Y < a <;> omega), ?_⟩
          simp only [c2, decide_false, cond_false, W_nat (show i < 9223372036854775807 by omega)]
    · intro m s hinv
      have hlen := hinv.perm.length_eq
      have hni := hinv.ni
      obtain ⟨q1, q2, q3, q4, q5⟩ := hinv.fin
      simp only [f69_8_1, f69_8_1b, show decide ((l.length : Int) < (l.length : Int)) = false by simp, cond_false, f69_c17_1]
      rw [show sub s.1 0 (s.2 : Int) = some (s.1.take s.2) from (sub_nat (a := 0) (by omega) (by omega)).trans (by simp), sub_nat (by omega) (Nat.le_refl _)]
      rw [W_in (n := p.Y + p.H) (by omega) (by omega), W_in (n := a - p.Y) (by omega) (by omega), W_in (n := p.Y + p.H - a) (by omega) (by omega)]
      have his : isCut p l ⟨false, a⟩ = (decide (0 < s.2) && decide (s.2 < s.1.length)) := by
        unfold isCut; rw [hin, hb0, q3, q4, q5]; simp
      have hd1 : (s.1.take s.1.length).drop s.2 = s.1.drop s.2 := by rw [List.take_length]
      simp only [Option.bind_some, hd1]
      by_cases d : 0 < s.2
      · simp only [show decide ((0 : Int) < (s.2 : Int)) = true by simp; omega, cond_true]
        refine ⟨_, rfl, ⟨?_, fun _ => rfl, fun _ => rfl, fun _ => q1, fun _ => q2⟩⟩
        rw [his]; simp [d]
      · simp only [show decide ((0 : Int) < (s.2 : Int)) = false by simp; omega, cond_false]
        refine ⟨_, rfl, ⟨?_, fun _ => rfl, fun _ => rfl, fun _ => q1, fun _ => q2⟩⟩
        rw [his]; simp [d]
theorem f69_ok {N : Nat} {p : Label} {l : List Label} {c : Cut} (hs : Small p) (hf : ∀ x, x ∈ l → Fits p x) (hl : l.length ≤ 30) (hN : 30 < N) : ∃ r, f69 N ⟨p, l⟩ c = some r ∧ DivOK p l c r := by
  obtain ⟨up, a⟩ := c
  cases up with
  | true => exact f69_up hs hf hl hN
  | false => exact f69_lie hs hf hl hN
end Go.Vc
namespace Go.Vc
open Go.Proofs
set_option linter.unusedVariables false
set_option linter.unnecessarySimpa false
set_option linter.unusedSimpArgs false
def f3_c15 (a0 : Layout) (N : Nat) (x3 : Layout) : Option (Bool) :=
 (f20 N a0).bind fun x9 =>
 (f21 N x3).bind fun x10 =>
 bif decide (x9 = x10) then ((f13 N ).bind fun x11 =>
 some (x11))
 else (some (false))
def f3_11b (r11 : Int → Option (Bool)) (a0 : Layout) (x3 : Layout) (x4 : (List Cut) × Int) (x5 : (List Cut) × Int) (k0 : Option (Bool)) (v14 : Int) : Option (Bool) :=
 bif decide (v14 < (List.length x4.1 : Int)) then ((ix x4.1 v14).bind fun x12 =>
 (ix x5.1 v14).bind fun x13 =>
 bif !((x12.Up == x13.Up) && (decide (x12.At = x13.At) && true)) then (some (false))
 else (r11 (W (v14 + (1 : Int)))))
 else k0
def f3_11 (a0 : Layout) (x3 : Layout) (x4 : (List Cut) × Int) (x5 : (List Cut) × Int) (k0 : Option (Bool)) : Nat → Int → Option (Bool)
  | 0, _ => none
  | n + 1, v14 => f3_11b (f3_11 a0 x3 x4 x5 k0 n) a0 x3 x4 x5 k0 v14
def f3 (N : Nat) (a0 : Layout) (a1 : List Kind) : Option (Bool) :=
 bif decide ((30 : Int) < (List.length a0.Labels : Int)) then ((f13 N ).bind fun x1 =>
 some (x1))
 else (bif decide ((30 : Int) < (List.length a1 : Int)) then ((f13 N ).bind fun x2 =>
 some (x2))
 else ((f14 N a0).bind fun x3 =>
 (f15 N a0).bind fun x4 =>
 (f16 N x3).bind fun x5 =>
 (f17 N a0 a1).bind fun x6 =>
 (f19 N a1).bind fun x7 =>
 (f18 N x3 x7).bind fun x8 =>
 bif decide (¬ x4.2 = x5.2) then (some (false))
 else (bif decide (¬ (List.length x4.1 : Int) = (List.length x5.1 : Int)) then (some (false))
 else (bif decide (¬ x6.1 = x8.1) then (some (false))
 else (bif decide (¬ x6.2 = x8.2) then (some (false))
 else (joinK (f3_c15 a0 N x3) fun k0 =>
 f3_11 a0 x3 x4 x5 k0 N (0 : Int)))))))
end Go.Vc
/-
  PLAIN LAWS OF CUT, 4: all cuts of a piece; the statement CutLayouts.
-/
namespace Go.Vc
set_option linter.unusedVariables false
set_option linter.unnecessarySimpa false
set_option linter.unusedSimpArgs false
set_option linter.unusedSimpArgs false

def lineCuts (up : Bool) (p : Label) (l : List Label) : List Cut := ((List.range' 0 12).filter fun i : Nat => isCut p l ⟨up, (i : Int)⟩).map fun i : Nat => ⟨up, (i : Int)⟩
def cutsL (p : Label) (l : List Label) : List Cut := lineCuts true p l ++ lineCuts false p l
theorem forK_filter {ρ : Type} {f : Nat → Bool} {g : Nat → Cut} {k : List Cut → Option ρ} : ∀ (m i : Nat) (s : List Cut), s.length + m ≤ 1000 →
    forK (fun i (s : List Cut) c => bif f i then (app 16 s [g i]).bind c else c s) k i m s = k (s ++ ((List.range' i m).filter f).map g)
  | 0, i, s, _ => by simp [forK]
  | m + 1, i, s, h => by
    simp only [forK, List.range'_succ, List.filter_cons]
    cases f i with
    | true =>
      rw [cond_true, app_ok (by simp; omega) (by simp; omega)]
      simp only [Option.bind_some]
      rw [forK_filter m (i + 1) _ (by simp; omega)]
      simp
    | false => rw [cond_false, forK_filter m (i + 1) s (by omega)]; simp
theorem f45_eq {N : Nat} {p : Label} {l : List Label} (hs : Small p) (hf : ∀ x, x ∈ l → Fits p x) (hl : l.length ≤ 30) (hN : 30 < N) : f45 N ⟨p, l⟩ = some (cutsL p l) := by
  have h6 : ∀ (v : Nat) (up : Bool) (k1 : List Cut → Option (List Cut)) (s : List Cut), s.length ≤ 100 → f45_6 ⟨p, l⟩ N (v : Int) k1 up N s (0 : Int) = k1 (s ++ lineCuts up p l) := by
    intro v up k1 s hsl
    have := loopN (F := fun n (s : List Cut) j => f45_6 ⟨p, l⟩ N (v : Int) k1 up n s j) (g := fun i (s : List Cut) c => bif isCut p l ⟨up, (i : Int)⟩ then (app 16 s [⟨up, (i : Int)⟩]).bind c else c s) (k := k1) 0 12 (by omega)
      (fun n s i _ hi => by
        obtain ⟨r, h1, h2⟩ := f69_ok (c := ⟨up, (i : Int)⟩) hs hf hl hN
        simp only [f45_6, f45_6b, decide_eq_true (show (i : Int) < 12 by omega), cond_true, h1, Option.bind_some, h2.is, W_nat (show i < 9223372036854775807 by omega)])
      (fun n s => rfl) N s (by omega)
    refine this.trans ?_
    rw [forK_filter _ _ _ (by omega)]
    rfl
  show f45_3 ⟨p, l⟩ N f45_c13 N [] (0 : Int) = _
  have := loopL (l := [true, false]) (F := fun n (s : List Cut) j => f45_3 ⟨p, l⟩ N f45_c13 n s j) (g := fun i up (s : List Cut) c => f45_6 ⟨p, l⟩ N (i : Int) c up N s (0 : Int)) (k := f45_c13)
    (fun n s i x hx => by
      have hi := (List.getElem?_eq_some_iff.1 hx).1
      simp only [f45_3, f45_3b, joinK, ix_nat, hx, Option.bind_some, decide_eq_true (show (i : Int) < (([true, false] : List Bool).length : Int) by simp at hi ⊢; omega), cond_true]
      congr 1
      funext s'
      simp only [f45_c12, W_nat (show i < 9223372036854775807 by simp at hi; omega)])
    (fun n s => rfl) N [] (by simp; omega)
  refine this.trans ?_
  simp only [foldK]
  have hlc : (lineCuts true p l).length ≤ 12 := by
    unfold lineCuts
    rw [List.length_map]
    exact Nat.le_trans (List.length_filter_le _ _) (by simp)
  rw [h6 0 true _ [] (by simp), h6 1 false _ _ (by simp; omega)]
  rfl

/-! The document's way: labels that lie inside. -/
def insideB (p x : Label) : Bool := decide (p.X ≤ x.X) && (decide (p.Y ≤ x.Y) && (decide (W (x.X + x.W) ≤ W (p.X + p.W)) && decide (W (x.Y + x.H) ≤ W (p.Y + p.H))))
theorem filter_fold {k : List Label → Option (List Label)} {f : Label → Bool} : ∀ (l : List Label) (i : Nat) (s : List Label), s.length + l.length ≤ 1000 →
    foldK (fun _ x (s : List Label) c => bif f x then (app 32 s [x]).bind c else c s) k i l s = k (s ++ l.filter f)
  | [], i, s, _ => by simp [foldK]
  | x :: r, i, s, h => by
    simp only [List.length_cons] at h
    simp only [foldK, List.filter_cons]
    cases f x with
    | true =>
      rw [cond_true, app_ok (by simp; omega) (by simp; omega)]
      simp only [Option.bind_some]
      rw [filter_fold r (i + 1) _ (by simp; omega)]
      simp
    | false => rw [cond_false, filter_fold r (i + 1) s (by omega)]; simp
theorem f62_eq {N : Nat} {p : Label} {l : List Label} (hl : l.length ≤ 30) (hN : 30 < N) : f62 N l p = some (l.filter (insideB p)) := by
  show f62_3 l p f62_c7 N [] (0 : Int) = _
  have := loopL (l := l) (F := fun n (s : List Label) j => f62_3 l p f62_c7 n s j) (g := fun _ x (s : List Label) c => bif insideB p x then (app 32 s [x]).bind c else c s) (k := f62_c7)
    (fun n s i x hx => by
      have hi := (List.getElem?_eq_some_iff.1 hx).1
      simp only [f62_3, f62_3b, ix_nat, hx, Option.bind_some, decide_eq_true (show (i : Int) < (l.length : Int) by omega), cond_true, W_nat (show i < 9223372036854775807 by omega), insideB]
      cases decide (p.X ≤ x.X) <;> cases decide (p.Y ≤ x.Y) <;> cases decide (W (x.X + x.W) ≤ W (p.X + p.W)) <;> cases decide (W (x.Y + x.H) ≤ W (p.Y + p.H)) <;> rfl)
    (fun n s => by simp [f62_3, f62_3b]) N [] (by omega)
  refine this.trans ?_
  rw [filter_fold _ _ _ (by simp; omega)]
  simp [f62_c7]
theorem insideB_iff {p x : Label} (hp : -1000 ≤ p.X + p.W ∧ p.X + p.W ≤ 1000 ∧ -1000 ≤ p.Y + p.H ∧ p.Y + p.H ≤ 1000) (hx : -1000 ≤ x.X + x.W ∧ x.X + x.W ≤ 1000 ∧ -1000 ≤ x.Y + x.H ∧ x.Y + x.H ≤ 1000) :
    insideB p x = true ↔ p.X ≤ x.X ∧ p.Y ≤ x.Y ∧ x.X + x.W ≤ p.X + p.W ∧ x.Y + x.H ≤ p.Y + p.H := by
  unfold insideB
  rw [W_in (n := x.X + x.W) (by omega) (by omega), W_in (n := p.X + p.W) (by omega) (by omega), W_in (n := x.Y + x.H) (by omega) (by omega), W_in (n := p.Y + p.H) (by omega) (by omega)]
  simp only [Bool.and_eq_true, decide_eq_true_eq]
/-- the halves of a cut, by the labels in them -/
theorem inside_half1 {p x : Label} {c : Cut} (hs : Small p) (hx : Fits p x) (hc : inner c p = true) : insideB (half1 p c) x = before c x := by
  have s1 := hs.x0; have s2 := hs.y0; have s3 := hs.x1; have s4 := hs.y1; have s5 := hs.w; have s6 := hs.h
  have t1 := hx.w; have t2 := hx.h; have t3 := hx.x0; have t4 := hx.y0; have t5 := hx.x1; have t6 := hx.y1
  obtain ⟨up, a⟩ := c
  unfold inner at hc
  rw [Bool.and_eq_true, decide_eq_true_iff, decide_eq_true_iff] at hc
  rw [Bool.eq_iff_iff, before_iff]
  cases up with
  | true =>
    have hc : p.X + 1 ≤ a ∧ a ≤ p.X + p.W - 1 := hc
    rw [insideB_iff (p := half1 p ⟨true, a⟩) (x := x) (by show -1000 ≤ p.X + (a - p.X) ∧ p.X + (a - p.X) ≤ 1000 ∧ -1000 ≤ p.Y + p.H ∧ p.Y + p.H ≤ 1000; omega) (by omega)]
    show (p.X ≤ x.X ∧ p.Y ≤ x.Y ∧ x.X + x.W ≤ p.X + (a - p.X) ∧ x.Y + x.H ≤ p.Y + p.H) ↔ x.X + x.W ≤ a; omega
  | false =>
    have hc : p.Y + 1 ≤ a ∧ a ≤ p.Y + p.H - 1 := hc
    rw [insideB_iff (p := half1 p ⟨false, a⟩) (x := x) (by show -1000 ≤ p.X + p.W ∧ p.X + p.W ≤ 1000 ∧ -1000 ≤ p.Y + (a - p.Y) ∧ p.Y + (a - p.Y) ≤ 1000; omega) (by omega)]
    show (p.X ≤ x.X ∧ p.Y ≤ x.Y ∧ x.X + x.W ≤ p.X + p.W ∧ x.Y + x.H ≤ p.Y + (a - p.Y)) ↔ x.Y + x.H ≤ a; omega
theorem inside_half2 {p x : Label} {c : Cut} (hs : Small p) (hx : Fits p x) (hc : inner c p = true) : insideB (half2 p c) x = behind c x := by
  have s1 := hs.x0; have s2 := hs.y0; have s3 := hs.x1; have s4 := hs.y1; have s5 := hs.w; have s6 := hs.h
  have t1 := hx.w; have t2 := hx.h; have t3 := hx.x0; have t4 := hx.y0; have t5 := hx.x1; have t6 := hx.y1
  obtain ⟨up, a⟩ := c
  unfold inner at hc
  rw [Bool.and_eq_true, decide_eq_true_iff, decide_eq_true_iff] at hc
  rw [Bool.eq_iff_iff, behind_iff]
  cases up with
  | true =>
    have hc : p.X + 1 ≤ a ∧ a ≤ p.X + p.W - 1 := hc
    rw [insideB_iff (p := half2 p ⟨true, a⟩) (x := x) (by show -1000 ≤ a + (p.X + p.W - a) ∧ a + (p.X + p.W - a) ≤ 1000 ∧ -1000 ≤ p.Y + p.H ∧ p.Y + p.H ≤ 1000; omega) (by omega)]
    show (a ≤ x.X ∧ p.Y ≤ x.Y ∧ x.X + x.W ≤ a + (p.X + p.W - a) ∧ x.Y + x.H ≤ p.Y + p.H) ↔ a ≤ x.X; omega
  | false =>
    have hc : p.Y + 1 ≤ a ∧ a ≤ p.Y + p.H - 1 := hc
    rw [insideB_iff (p := half2 p ⟨false, a⟩) (x := x) (by show -1000 ≤ p.X + p.W ∧ p.X + p.W ≤ 1000 ∧ -1000 ≤ a + (p.Y + p.H - a) ∧ a + (p.Y + p.H - a) ≤ 1000; omega) (by omega)]
    show (p.X ≤ x.X ∧ a ≤ x.Y ∧ x.X + x.W ≤ p.X + p.W ∧ x.Y + x.H ≤ a + (p.Y + p.H - a)) ↔ a ≤ x.Y; omega
theorem f64_in {N : Nat} {p : Label} {c : Cut} (hs : Small p) (hc : inner c p = true) : f64 N p c = some (half1 p c, half2 p c, true) := by
  have s1 := hs.x0; have s2 := hs.y0; have s3 := hs.x1; have s4 := hs.y1; have s5 := hs.w; have s6 := hs.h
  obtain ⟨up, a⟩ := c
  unfold inner at hc
  have hc2 := hc
  rw [Bool.and_eq_true, decide_eq_true_iff, decide_eq_true_iff] at hc2
  unfold f64
  cases up with
  | true =>
    have hc2 : p.X + 1 ≤ a ∧ a ≤ p.X + p.W - 1 := hc2
    simp only [cond_true, f56_eq, Option.bind_some]
    rw [W_in (n := p.X + p.W) (by omega) (by omega), W_in (n := p.X + 1) (by omega) (by omega), W_in (n := p.X + p.W - 1) (by omega) (by omega), W_in (n := a - p.X) (by omega) (by omega), W_in (n := p.X + p.W - a) (by omega) (by omega), decide_eq_true hc2.1, decide_eq_true hc2.2]
    rfl
  | false =>
    have hc2 : p.Y + 1 ≤ a ∧ a ≤ p.Y + p.H - 1 := hc2
    simp only [cond_false, f56_eq, Option.bind_some]
    rw [W_in (n := p.Y + p.H) (by omega) (by omega), W_in (n := p.Y + 1) (by omega) (by omega), W_in (n := p.Y + p.H - 1) (by omega) (by omega), W_in (n := a - p.Y) (by omega) (by omega), W_in (n := p.Y + p.H - a) (by omega) (by omega), decide_eq_true hc2.1, decide_eq_true hc2.2]
    rfl
theorem f64_out {N : Nat} {p : Label} {c : Cut} (hs : Small p) (hc : inner c p = false) : ∃ a b, f64 N p c = some (a, b, false) := by
  have s1 := hs.x0; have s2 := hs.y0; have s3 := hs.x1; have s4 := hs.y1; have s5 := hs.w; have s6 := hs.h
  obtain ⟨up, a⟩ := c
  unfold f64
  cases up with
  | true =>
    have hc : (decide (p.X + 1 ≤ a) && decide (a ≤ p.X + p.W - 1)) = false := hc
    simp only [cond_true, f56_eq, Option.bind_some]
    rw [W_in (n := p.X + p.W) (by omega) (by omega), W_in (n := p.X + 1) (by omega) (by omega), W_in (n := p.X + p.W - 1) (by omega) (by omega)]
    exact ⟨_, _, by rw [hc]⟩
  | false =>
    have hc : (decide (p.Y + 1 ≤ a) && decide (a ≤ p.Y + p.H - 1)) = false := hc
    simp only [cond_false, f56_eq, Option.bind_some]
    rw [W_in (n := p.Y + p.H) (by omega) (by omega), W_in (n := p.Y + 1) (by omega) (by omega), W_in (n := p.Y + p.H - 1) (by omega) (by omega)]
    exact ⟨_, _, by rw [hc]⟩
theorem count_split {f g : Label → Bool} : ∀ (l : List Label), (∀ x, x ∈ l → f x = true → g x = false) → (l.filter f).length + (l.filter g).length ≤ l.length ∧ (((l.filter f).length + (l.filter g).length = l.length) ↔ l.all (fun x => f x || g x) = true)
  | [], _ => by simp
  | x :: r, h => by
    obtain ⟨h1, h2⟩ := count_split r fun y hy => h y (by simp [hy])
    have hx := h x (by simp)
    simp only [List.filter_cons, List.all_cons, Bool.and_eq_true]
    cases hf : f x with
    | true =>
      rw [hx hf]
      simp only [Bool.false_eq_true, if_false, if_true, List.length_cons, Bool.true_or, true_and]
      exact ⟨by omega, by rw [← h2]; omega⟩
    | false =>
      cases hg : g x with
      | true =>
        simp only [Bool.false_eq_true, if_false, if_true, List.length_cons, Bool.false_or, true_and]
        exact ⟨by omega, by rw [← h2]; omega⟩
      | false =>
        simp only [Bool.false_eq_true, if_false, List.length_cons, Bool.or_self, false_and, iff_false]
        exact ⟨by omega, by omega⟩
theorem any_filter {f : Label → Bool} {l : List Label} : l.any f = decide (0 < (l.filter f).length) := by
  rw [Bool.eq_iff_iff, List.any_eq_true, decide_eq_true_eq]
  constructor
  · rintro ⟨x, hx, hf⟩; exact List.length_pos_of_mem (List.mem_filter.2 ⟨hx, hf⟩)
  · intro h
    obtain ⟨x, hx⟩ := List.exists_mem_of_length_pos h
    exact ⟨x, (List.mem_filter.1 hx).1, (List.mem_filter.1 hx).2⟩
theorem filter_congr' {f g : Label → Bool} {l : List Label} (h : ∀ x, x ∈ l → f x = g x) : l.filter f = l.filter g := List.filter_congr h
theorem f63_eq {N : Nat} {p : Label} {l : List Label} {c : Cut} (hs : Small p) (hf : ∀ x, x ∈ l → Fits p x) (hl : l.length ≤ 30) (hN : 30 < N) : f63 N l p c = some (isCut p l c) := by
  unfold f63
  cases hin : inner c p with
  | false =>
    obtain ⟨a, b, h⟩ := f64_out (N := N) hs hin
    simp only [h, Option.bind_some]
    simp [isCut, hin]
  | true =>
    simp only [f64_in hs hin, Option.bind_some, f62_eq hl hN]
    have e1 : l.filter (insideB (half1 p c)) = l.filter (before c) := filter_congr' fun x hx => inside_half1 hs (hf x hx) hin
    have e2 : l.filter (insideB (half2 p c)) = l.filter (behind c) := filter_congr' fun x hx => inside_half2 hs (hf x hx) hin
    have hcs := count_split (f := before c) (g := behind c) l fun x hx hb => not_both (hf x hx) hb
    rw [e1, e2]
    simp only [Bool.not_true, cond_false, isCut, hin, Bool.true_and]
    have hle := hcs.1
    rw [W_in (by omega) (by omega)]
    have hall : l.all (fun x => before c x || behind c x) = decide (((l.filter (before c)).length : Int) + ((l.filter (behind c)).length : Int) = (l.length : Int)) := by
      rw [Bool.eq_iff_iff, ← hcs.2, decide_eq_true_eq]; omega
    have hany : l.any (before c) = decide (0 < ((l.filter (before c)).length : Int)) := by
      rw [any_filter, Bool.eq_iff_iff, decide_eq_true_eq, decide_eq_true_eq]; omega
    cases ha : l.all (fun x => before c x || behind c x) with
    | false =>
      rw [ha] at hall
      rw [← hall]
      cases decide (0 < ((l.filter (before c)).length : Int)) <;> cases decide (0 < ((l.filter (behind c)).length : Int)) <;> rfl
    | true =>
      rw [ha] at hall
      rw [← hall, ← hany]
      have hb : l.any (fun x => !before c x) = decide (0 < ((l.filter (behind c)).length : Int)) := by
        rw [any_filter, Bool.eq_iff_iff, decide_eq_true_eq, decide_eq_true_eq]
        have : l.filter (fun x => !before c x) = l.filter (behind c) := filter_congr' fun x hx => by
          have := List.all_eq_true.1 ha x hx
          cases hbx : before c x with
          | true => rw [not_both (hf x hx) hbx]; rfl
          | false => rw [hbx] at this; simpa using this.symm
        rw [this]; omega
      rw [hb]
      cases l.any (before c) <;> cases decide (0 < ((l.filter (behind c)).length : Int)) <;> rfl
theorem isCut_12 {p : Label} {l : List Label} {up : Bool} (hs : Small p) : isCut p l ⟨up, ((12 : Nat) : Int)⟩ = false := by
  have s3 := hs.x1; have s4 := hs.y1
  have : inner ⟨up, ((12 : Nat) : Int)⟩ p = false := by
    unfold inner
    rw [Bool.and_eq_false_iff]
    right
    rw [decide_eq_false_iff_not]
    cases up <;> simp only [hi, cond_true, cond_false] <;> omega
  unfold isCut; rw [this]; rfl
theorem f46_eq {N : Nat} {p : Label} {l : List Label} (hs : Small p) (hf : ∀ x, x ∈ l → Fits p x) (hl : l.length ≤ 30) (hN : 30 < N) : f46 N l p = some (cutsL p l) := by
  have h13 : ∀ up, ((List.range' 0 13).filter fun i : Nat => isCut p l ⟨up, (i : Int)⟩).map (fun i : Nat => (⟨up, (i : Int)⟩ : Cut)) = lineCuts up p l := by
    intro up
    unfold lineCuts
    rw [show List.range' 0 13 = List.range' 0 12 ++ [12] from rfl, List.filter_append, List.map_append]
    rw [List.filter_cons, isCut_12 hs]
    simp
  have h8 : ∀ (s : List Cut), s.length ≤ 100 → f46_c7 l p N s = some (s ++ lineCuts false p l) := by
    intro s hsl
    have := loopN (F := fun n (s : List Cut) j => f46_8 l p N f46_c12 n s j) (g := fun i (s : List Cut) c => bif isCut p l ⟨false, (i : Int)⟩ then (app 16 s [⟨false, (i : Int)⟩]).bind c else c s) (k := f46_c12) 0 13 (by omega)
      (fun n s i _ hi => by
        simp only [f46_8, f46_8b, decide_eq_true (show (i : Int) ≤ 12 by omega), cond_true, f63_eq (c := ⟨false, (i : Int)⟩) hs hf hl hN, Option.bind_some, W_nat (show i < 9223372036854775807 by omega)])
      (fun n s => rfl) N s (by omega)
    refine this.trans ?_
    rw [forK_filter _ _ _ (by omega), h13]
    rfl
  show f46_3 l p N (f46_c7 l p N) N [] (0 : Int) = _
  have := loopN (F := fun n (s : List Cut) j => f46_3 l p N (f46_c7 l p N) n s j) (g := fun i (s : List Cut) c => bif isCut p l ⟨true, (i : Int)⟩ then (app 16 s [⟨true, (i : Int)⟩]).bind c else c s) (k := f46_c7 l p N) 0 13 (by omega)
    (fun n s i _ hi => by
      simp only [f46_3, f46_3b, decide_eq_true (show (i : Int) ≤ 12 by omega), cond_true, f63_eq (c := ⟨true, (i : Int)⟩) hs hf hl hN, Option.bind_some, W_nat (show i < 9223372036854775807 by omega)])
    (fun n s => rfl) N [] (by omega)
  refine this.trans ?_
  rw [forK_filter _ _ _ (by simp), h13, h8 _ (by
    have : (lineCuts true p l).length ≤ 12 := by
      unfold lineCuts; rw [List.length_map]; exact Nat.le_trans (List.length_filter_le _ _) (by simp)
    simpa using Nat.le_trans this (by omega))]
  rfl

/-! Valid layouts. -/
def sheetOf (L : Layout) : Label := ⟨0, 0, L.W, L.H⟩
structure Valid (L : Layout) : Prop where
  small : Small (sheetOf L)
  w : 1 ≤ L.W
  h : 1 ≤ L.H
  len : L.Labels.length ≤ 10
  fits : ∀ x, x ∈ L.Labels → Fits (sheetOf L) x
  clash : clashes [] L.Labels = false
theorem okLabel_fits {L : Layout} {x : Label} (hw : 1 ≤ L.W ∧ L.W ≤ 12) (hh : 1 ≤ L.H ∧ L.H ≤ 12) (h : okLabel L x = none) : Fits (sheetOf L) x := by
  unfold okLabel at h
  split at h; · cases h
  split at h; · cases h
  split at h; · cases h
  split at h; · cases h
  rename_i h1 h2 h3 h4
  rw [W_in (by omega) (by omega), W_in (by omega) (by omega)] at h
  split at h; · cases h
  split at h; · cases h
  rename_i h5 h6
  exact ⟨by omega, by omega, by simp only [sheetOf]; omega, by simp only [sheetOf]; omega, by simp only [sheetOf]; omega, by simp only [sheetOf]; omega⟩
theorem valid_of {L : Layout} (h : checkS L = 0) : Valid L := by
  unfold checkS at h
  split at h; · cases h
  split at h; · cases h
  split at h; · cases h
  rename_i h1 h2 h3
  have hw : 1 ≤ L.W ∧ L.W ≤ 12 := Classical.not_not.1 h1
  have hh : 1 ≤ L.H ∧ L.H ≤ 12 := Classical.not_not.1 h2
  cases hfs : L.Labels.findSome? (okLabel L) with
  | some e =>
    rw [hfs] at h
    exfalso
    obtain ⟨x, hx, he⟩ := List.exists_of_findSome?_eq_some hfs
    simp only [Option.getD_some] at h
    subst h
    unfold okLabel at he
    repeat' (split at he)
    all_goals cases he
  | none =>
    rw [hfs] at h
    have hall := List.findSome?_eq_none_iff.1 hfs
    refine ⟨⟨by simp [sheetOf], by simp [sheetOf], by simp only [sheetOf]; omega, by simp only [sheetOf]; omega, by simp only [sheetOf]; omega, by simp only [sheetOf]; omega⟩, hw.1, hh.1, by omega, fun x hx => okLabel_fits hw hh (hall x hx), ?_⟩
    cases hc : clashes [] L.Labels with
    | false => rfl
    | true => rw [hc] at h; cases h
def cutsS (L : Layout) : List Cut × Int := if checkS L = 0 then (cutsL (sheetOf L) L.Labels, 0) else ([], checkS L)
theorem f15_eq {N : Nat} {L : Layout} (h : L.Labels.length ≤ 30) (hN : 30 < N) : f15 N L = some (cutsS L) := by
  unfold f15 cutsS
  simp only [f20_eq h hN, Option.bind_some]
  by_cases c : checkS L = 0
  · have hv := valid_of c
    simp only [c, not_true_eq_false, decide_false, cond_false, if_true, f44, Option.bind_some]
    have := f45_eq (p := sheetOf L) hv.small hv.fits h hN
    simp only [sheetOf] at this ⊢
    rw [this]; rfl
  · simp [c]
theorem f16_eq {N : Nat} {L : Layout} (h : L.Labels.length ≤ 30) (hN : 30 < N) : f16 N L = some (cutsS L) := by
  unfold f16 cutsS
  simp only [f21_eq h hN, Option.bind_some]
  by_cases c : checkS L = 0
  · have hv := valid_of c
    simp only [c, not_true_eq_false, decide_false, cond_false, if_true, f47, Option.bind_some]
    have := f46_eq (p := sheetOf L) hv.small hv.fits h hN
    simp only [sheetOf] at this ⊢
    rw [this]; rfl
  · simp [c]

theorem fold_skip {α ρ : Type} {k : Option ρ} : ∀ (l : List α) (i : Nat), foldK (fun _ (x : α) (_ : Unit) c => c ()) (fun _ => k) i l () = k
  | [], _ => rfl
  | x :: r, i => by simp only [foldK]; exact fold_skip r (i + 1)
theorem f3_true (a : Layout) (ks : List Kind) (hw : f13 40 = some true) : f3 40 a ks = some true := by
  unfold f3
  by_cases c1 : 30 < (a.Labels.length : Int)
  · simp [c1, hw]
  by_cases c2 : 30 < (ks.length : Int)
  · simp [c1, c2, hw]
  have h1 : a.Labels.length ≤ 30 := by omega
  have h2 : ks.length ≤ 30 := by omega
  simp only [c1, c2, decide_false, cond_false, f14_eq (N := 40) h1 (by omega), f19_eq (N := 40) h2 (by omega), f15_eq h1 (show 30 < 40 by omega), f16_eq h1 (show 30 < 40 by omega), f17_eq h1 h2 (show 30 < 40 by omega), f18_eq h1 h2 (show 30 < 40 by omega), Option.bind_some, not_true_eq_false, joinK]
  have hlen : (cutsS a).1.length ≤ 24 := by
    unfold cutsS
    split
    · have : ∀ up, (lineCuts up (sheetOf a) a.Labels).length ≤ 12 := by
        intro up; unfold lineCuts; rw [List.length_map]; exact Nat.le_trans (List.length_filter_le _ _) (by simp)
      simp only [cutsL, List.length_append]
      have h1 := this true; have h2 := this false; omega
    · simp
  have := loopL (l := (cutsS a).1) (F := fun n (_ : Unit) j => f3_11 a a (cutsS a) (cutsS a) (f3_c15 a 40 a) n j) (g := fun _ x (_ : Unit) c => c ()) (k := fun _ => f3_c15 a 40 a)
    (fun n s j x hx => by
      have hi := (List.getElem?_eq_some_iff.1 hx).1
      simp only [f3_11, f3_11b, ix_nat, hx, Option.bind_some, decide_eq_true (show (j : Int) < ((cutsS a).1.length : Int) by omega), cond_true, W_nat (show j < 9223372036854775807 by omega), beq_self_eq_true, decide_true, Bool.and_self, Bool.not_true, cond_false])
    (fun n s => by simp [f3_11, f3_11b]) 40 () (by omega)
  refine this.trans ?_
  rw [fold_skip]
  unfold f3_c15
  simp [f20_eq h1 (show 30 < 40 by omega), f21_eq h1 (show 30 < 40 by omega), hw]
end Go.Vc
namespace Go.Vc
open Go.Proofs
set_option linter.unusedVariables false
set_option linter.unnecessarySimpa false
set_option linter.unusedSimpArgs false
def f26_c18 (a1 : List Cut) (v7 : Int) : Option (Int) :=
 bif decide (v7 < (List.length a1 : Int)) then (some ((21 : Int)))
 else (some ((0 : Int)))
def f26_6b (r6 : (List Label) → Int → Option (Int)) (a0 : Layout) (a1 : List Cut) (N : Nat) (k0 : Int → Option (Int)) (v6 : List Label) (v7 : Int) : Option (Int) :=
 bif decide ((0 : Int) < (List.length v6 : Int)) then ((ix v6 (W ((List.length v6 : Int) - (1 : Int)))).bind fun x3 =>
 (sub v6 0 (W ((List.length v6 : Int) - (1 : Int)))).bind fun x4 =>
 (f62 N a0.Labels x3).bind fun x5 =>
 bif decide ((List.length x5 : Int) < (2 : Int)) then (r6 x4 v7)
 else (bif decide (v7 = (List.length a1 : Int)) then (some ((22 : Int)))
 else ((ix a1 v7).bind fun x6 =>
 (f63 N x5 x3 x6).bind fun x7 =>
 bif !x7 then (some ((13 : Int)))
 else ((ix a1 v7).bind fun x8 =>
 (f64 N x3 x8).bind fun x9 =>
 (app 32 x4 [x9.2.1, x9.1]).bind fun x10 =>
 r6 x10 (W (v7 + (1 : Int)))))))
 else (k0 v7)
def f26_6 (a0 : Layout) (a1 : List Cut) (N : Nat) (k0 : Int → Option (Int)) : Nat → (List Label) → Int → Option (Int)
  | 0, _, _ => none
  | n + 1, v6, v7 => f26_6b (f26_6 a0 a1 N k0 n) a0 a1 N k0 v6 v7
def f26 (N : Nat) (a0 : Layout) (a1 : List Cut) : Option (Int) :=
 (f21 N a0).bind fun x1 =>
 bif decide (¬ x1 = (0 : Int)) then (some (x1))
 else ((f47 N a0).bind fun x2 =>
 joinK (f26_c18 a1) fun k0 =>
 f26_6 a0 a1 N k0 N [x2] (0 : Int))
end Go.Vc
namespace Go.Vc
open Go.Proofs
set_option linter.unusedVariables false
set_option linter.unnecessarySimpa false
set_option linter.unusedSimpArgs false
def f65_c10 : Option (Bool) :=
 some (false)
def f65_5b (r5 : Int → Option (Bool)) (a0 : List Label) (a1 : Label) (a2 : Label) (N : Nat) (self : (List Label) → Label → Label → Option (Bool)) (x1 : List Cut) (k0 : Option (Bool)) (i8 : Int) : Option (Bool) :=
 bif decide (i8 < (List.length x1 : Int)) then ((ix x1 i8).bind fun x2 =>
 (f64 N a1 x2).bind fun x3 =>
 (f62 N a0 x3.1).bind fun x4 =>
 (self x4 x3.1 a2).bind fun x5 =>
 bif x5 then (some (true))
 else ((f62 N a0 x3.2.1).bind fun x6 =>
 (self x6 x3.2.1 a2).bind fun x7 =>
 bif x7 then (some (true))
 else (r5 (W (i8 + (1 : Int))))))
 else k0
def f65_5 (a0 : List Label) (a1 : Label) (a2 : Label) (N : Nat) (self : (List Label) → Label → Label → Option (Bool)) (x1 : List Cut) (k0 : Option (Bool)) : Nat → Int → Option (Bool)
  | 0, _ => none
  | n + 1, i8 => f65_5b (f65_5 a0 a1 a2 N self x1 k0 n) a0 a1 a2 N self x1 k0 i8
def f65b (self : (List Label) → Label → Label → Option (Bool)) (N : Nat) (a0 : List Label) (a1 : Label) (a2 : Label) : Option (Bool) :=
 bif (decide (a1.X = a2.X) && (decide (a1.Y = a2.Y) && (decide (a1.W = a2.W) && (decide (a1.H = a2.H) && true)))) then (some (true))
 else ((f46 N a0 a1).bind fun x1 =>
 joinK f65_c10 fun k0 =>
 f65_5 a0 a1 a2 N self x1 k0 N (0 : Int))
def f65 : Nat → (List Label) → Label → Label → Option (Bool)
  | 0, _, _, _ => none
  | N + 1, a0, a1, a2 => f65b (f65 N) N a0 a1 a2
end Go.Vc
namespace Go.Vc
open Go.Proofs
set_option linter.unusedVariables false
set_option linter.unnecessarySimpa false
set_option linter.unusedSimpArgs false
def f28 (N : Nat) (a0 : Layout) (a1 : Label) : Option (Bool) :=
 (f62 N a0.Labels a1).bind fun x1 =>
 bif decide ((1 : Int) < (List.length x1 : Int)) then ((f46 N x1 a1).bind fun x2 =>
 bif decide ((List.length x2 : Int) = (0 : Int)) then ((f47 N a0).bind fun x3 =>
 (f65 N a0.Labels x3 a1).bind fun x4 =>
 some (x4))
 else (some (false)))
 else (some (false))
end Go.Vc
/-
  PLAIN LAWS OF CUT, 5: plans, as a recursion over pieces.
-/
namespace Go.Vc
set_option linter.unusedVariables false
set_option linter.unnecessarySimpa false
set_option linter.unusedSimpArgs false
set_option linter.unusedSimpArgs false

/-! Pieces of a cut. -/
theorem isCut_parts {p : Label} {l : List Label} {c : Cut} (h : isCut p l c = true) : inner c p = true ∧ (∀ x, x ∈ l → (before c x || behind c x) = true) ∧ (∃ x, x ∈ l ∧ before c x = true) ∧ ∃ x, x ∈ l ∧ before c x = false := by
  unfold isCut at h
  simp only [Bool.and_eq_true] at h
  obtain ⟨h1, h2, h3, h4⟩ := h
  refine ⟨h1, fun x hx => List.all_eq_true.1 h2 x hx, ?_, ?_⟩
  · obtain ⟨x, hx, hb⟩ := List.any_eq_true.1 h3; exact ⟨x, hx, hb⟩
  · obtain ⟨x, hx, hb⟩ := List.any_eq_true.1 h4; exact ⟨x, hx, by simpa using hb⟩
theorem small_half1 {p : Label} {c : Cut} (hs : Small p) (hc : inner c p = true) : Small (half1 p c) := by
  have s1 := hs.x0; have s2 := hs.y0; have s3 := hs.x1; have s4 := hs.y1; have s5 := hs.w; have s6 := hs.h
  obtain ⟨up, a⟩ := c
  unfold inner at hc
  rw [Bool.and_eq_true, decide_eq_true_iff, decide_eq_true_iff] at hc
  cases up with
  | true =>
    have hc : p.X + 1 ≤ a ∧ a ≤ p.X + p.W - 1 := hc
    exact ⟨s1, s2, by show p.X + (a - p.X) ≤ 12; omega, s4, by show 0 ≤ a - p.X; omega, s6⟩
  | false =>
    have hc : p.Y + 1 ≤ a ∧ a ≤ p.Y + p.H - 1 := hc
    exact ⟨s1, s2, s3, by show p.Y + (a - p.Y) ≤ 12; omega, s5, by show 0 ≤ a - p.Y; omega⟩
theorem small_half2 {p : Label} {c : Cut} (hs : Small p) (hc : inner c p = true) : Small (half2 p c) := by
  have s1 := hs.x0; have s2 := hs.y0; have s3 := hs.x1; have s4 := hs.y1; have s5 := hs.w; have s6 := hs.h
  obtain ⟨up, a⟩ := c
  unfold inner at hc
  rw [Bool.and_eq_true, decide_eq_true_iff, decide_eq_true_iff] at hc
  cases up with
  | true =>
    have hc : p.X + 1 ≤ a ∧ a ≤ p.X + p.W - 1 := hc
    exact ⟨by show 0 ≤ a; omega, s2, by show a + (p.X + p.W - a) ≤ 12; omega, s4, by show 0 ≤ p.X + p.W - a; omega, s6⟩
  | false =>
    have hc : p.Y + 1 ≤ a ∧ a ≤ p.Y + p.H - 1 := hc
    exact ⟨s1, by show 0 ≤ a; omega, s3, by show a + (p.Y + p.H - a) ≤ 12; omega, s5, by show 0 ≤ p.Y + p.H - a; omega⟩
theorem fits_half1 {p x : Label} {c : Cut} (hx : Fits p x) (hb : before c x = true) : Fits (half1 p c) x := by
  have t1 := hx.w; have t2 := hx.h; have t3 := hx.x0; have t4 := hx.y0; have t5 := hx.x1; have t6 := hx.y1
  obtain ⟨up, a⟩ := c
  rw [before_iff] at hb
  cases up with
  | true =>
    have hb : x.X + x.W ≤ a := hb
    exact ⟨t1, t2, t3, t4, by show x.X + x.W ≤ p.X + (a - p.X); omega, t6⟩
  | false =>
    have hb : x.Y + x.H ≤ a := hb
    exact ⟨t1, t2, t3, t4, t5, by show x.Y + x.H ≤ p.Y + (a - p.Y); omega⟩
theorem fits_half2 {p x : Label} {c : Cut} (hx : Fits p x) (hb : behind c x = true) : Fits (half2 p c) x := by
  have t1 := hx.w; have t2 := hx.h; have t3 := hx.x0; have t4 := hx.y0; have t5 := hx.x1; have t6 := hx.y1
  obtain ⟨up, a⟩ := c
  rw [behind_iff] at hb
  cases up with
  | true =>
    have hb : a ≤ x.X := hb
    exact ⟨t1, t2, hb, t4, by show x.X + x.W ≤ a + (p.X + p.W - a); omega, t6⟩
  | false =>
    have hb : a ≤ x.Y := hb
    exact ⟨t1, t2, t3, hb, t5, by show x.Y + x.H ≤ a + (p.Y + p.H - a); omega⟩
/-- a piece with its labels -/
structure Pc (p : Label) (l : List Label) : Prop where
  small : Small p
  fits : ∀ x, x ∈ l → Fits p x
theorem Pc.half1 {p : Label} {l : List Label} {c : Cut} (h : Pc p l) (hc : isCut p l c = true) : Pc (half1 p c) (l.filter (before c)) :=
  ⟨small_half1 h.small (isCut_parts hc).1, fun x hx => fits_half1 (h.fits x (List.mem_filter.1 hx).1) (List.mem_filter.1 hx).2⟩
theorem behind_of {p : Label} {l : List Label} {c : Cut} (hc : isCut p l c = true) {x : Label} (hx : x ∈ l) (hb : before c x = false) : behind c x = true := by
  have := (isCut_parts hc).2.1 x hx
  rw [hb] at this; simpa using this
theorem Pc.half2 {p : Label} {l : List Label} {c : Cut} (h : Pc p l) (hc : isCut p l c = true) : Pc (half2 p c) (l.filter fun x => !before c x) :=
  ⟨small_half2 h.small (isCut_parts hc).1, fun x hx => fits_half2 (h.fits x (List.mem_filter.1 hx).1) (behind_of hc (List.mem_filter.1 hx).1 (by simpa using (List.mem_filter.1 hx).2))⟩
theorem Pc.perm {p : Label} {l l' : List Label} (h : Pc p l) (hp : l'.Perm l) : Pc p l' := ⟨h.small, fun x hx => h.fits x (hp.mem_iff.1 hx)⟩
theorem split_len {l : List Label} (f : Label → Bool) : (l.filter f).length + (l.filter fun x => !f x).length = l.length := by
  induction l with
  | nil => rfl
  | cons x r ih => simp only [List.filter_cons]; cases f x <;> simp <;> omega
theorem cut_lens {p : Label} {l : List Label} {c : Cut} (hc : isCut p l c = true) : 1 ≤ (l.filter (before c)).length ∧ 1 ≤ (l.filter fun x => !before c x).length := by
  obtain ⟨_, _, ⟨x, hx, hb⟩, ⟨y, hy, hb'⟩⟩ := isCut_parts hc
  exact ⟨List.length_pos_of_mem (List.mem_filter.2 ⟨hx, hb⟩), List.length_pos_of_mem (List.mem_filter.2 ⟨hy, by rw [hb']; rfl⟩)⟩
theorem mem_cutsL {p : Label} {l : List Label} {c : Cut} (h : c ∈ cutsL p l) : isCut p l c = true := by
  unfold cutsL lineCuts at h
  rw [List.mem_append] at h
  rcases h with h | h <;> (obtain ⟨i, hi, rfl⟩ := List.mem_map.1 h; exact (List.mem_filter.1 hi).2)
theorem cutsL_perm {p : Label} {l l' : List Label} (h : l.Perm l') : cutsL p l = cutsL p l' := by
  unfold cutsL lineCuts
  simp only [isCut_perm h]
theorem cutsL_len {p : Label} {l : List Label} : (cutsL p l).length ≤ 24 := by
  have : ∀ up, (lineCuts up p l).length ≤ 12 := by
    intro up; unfold lineCuts; rw [List.length_map]; exact Nat.le_trans (List.length_filter_le _ _) (by simp)
  simp only [cutsL, List.length_append]
  have h1 := this true; have h2 := this false; omega

/-- the plan: the first cut, then the pieces; and the piece that is blocked -/
def planR : Nat → Label → List Label → List Cut × Option Label
  | 0, _, _ => ([], none)
  | m + 1, p, l => if l.length < 2 then ([], none) else match cutsL p l with
    | [] => ([], some p)
    | c :: _ => match planR m (half1 p c) (l.filter (before c)) with
      | (cs, some q) => (c :: cs, some q)
      | (cs, none) => (c :: (cs ++ (planR m (half2 p c) (l.filter fun x => !before c x)).1), (planR m (half2 p c) (l.filter fun x => !before c x)).2)
theorem planR_perm : ∀ (m : Nat) {p : Label} {l l' : List Label}, l.Perm l' → planR m p l = planR m p l'
  | 0, _, _, _, _ => rfl
  | m + 1, p, l, l', h => by
    simp only [planR, h.length_eq, cutsL_perm h]
    split
    · rfl
    · cases cutsL p l' with
      | nil => rfl
      | cons c r => simp only [planR_perm m (h.filter (before c)), planR_perm m (h.filter fun x => !before c x)]

/-! Stacks. -/
theorem stk {α : Type} {r : List α} {x : α} (h : r.length ≤ 1000) : decide ((0 : Int) < ((r ++ [x]).length : Int)) = true ∧ W (((r ++ [x]).length : Int) - (1 : Int)) = (r.length : Int) ∧ ix (r ++ [x]) (r.length : Int) = some x ∧ sub (r ++ [x]) 0 (r.length : Int) = some r := by
  refine ⟨by simp, ?_, by simp [ix_nat], ?_⟩
  · rw [W_in (by simp only [List.length_append, List.length_singleton]; omega) (by simp only [List.length_append, List.length_singleton]; omega)]
    simp only [List.length_append, List.length_singleton]; omega
  · exact (sub_nat (a := 0) (by omega) (by simp)).trans (by simp)
def blank : Piece := ⟨⟨0, 0, 0, 0⟩, []⟩
theorem f58_stack {N : Nat} {a : Layout} {k0 : List Cut → Option (List Cut × Piece × Bool)} (hN : 30 < N) : ∀ (m : Nat) (p : Label) (l l' : List Label), l'.Perm l → Pc p l → 1 ≤ l.length → l.length ≤ m → l.length ≤ 30 → ∀ (rest : List Piece) (pl : List Cut) (n j : Nat), rest.length + l.length ≤ 100 → pl.length + l.length ≤ 100 →
    2 * l.length - 1 + j ≤ n → (match (planR m p l).2 with
      | none => ∃ n', j ≤ n' ∧ f58_i102_2 a N k0 n (rest ++ [⟨p, l'⟩]) pl = f58_i102_2 a N k0 n' rest (pl ++ (planR m p l).1) ∧ (planR m p l).1.length + 1 = l.length
      | some q => ∃ l2, f58_i102_2 a N k0 n (rest ++ [⟨p, l'⟩]) pl = some (pl ++ (planR m p l).1, ⟨q, l2⟩, false)) := by
  intro m
  induction m with
  | zero => intro p l l' _ _ h1 h2; omega
  | succ m ih =>
    intro p l l' hp hpc h1 hm h30 rest pl n j hr hpl hn
    obtain ⟨n, rfl⟩ : ∃ k, n = k + 1 := ⟨n - 1, by omega⟩
    obtain ⟨e1, e2, e3, e4⟩ := stk (r := rest) (x := (⟨p, l'⟩ : Piece)) (by omega)
    have hlen := hp.length_eq
    simp only [planR]
    by_cases h2 : l.length < 2
    · rw [if_pos h2]
      refine ⟨n, by omega, ?_, by simp only [List.length_nil]; omega⟩
      simp only [f58_i102_2, f58_i102_2b, e1, cond_true, e2, e3, e4, Option.bind_some, decide_eq_true (show (l'.length : Int) < 2 by omega), List.append_nil]
    · rw [if_neg h2]
      have hpc' := hpc.perm hp
      have hcut : f45 N ⟨p, l'⟩ = some (cutsL p l) := by rw [f45_eq hpc'.small hpc'.fits (by omega) hN, cutsL_perm hp]
      cases hcs : cutsL p l with
      | nil =>
        obtain ⟨r, hr1, hr2⟩ := f69_ok (N := N) (p := p) (l := l') (c := ⟨false, 0⟩) hpc'.small hpc'.fits (by omega) hN
        refine ⟨l', ?_⟩
        simp only [f58_i102_2, f58_i102_2b, e1, cond_true, e2, e3, e4, Option.bind_some, decide_eq_false (show ¬ (l'.length : Int) < 2 by omega), cond_false, joinK, hcut, hcs, List.length_nil]
        simp only [Int.ofNat_eq_natCast, Int.natCast_zero, decide_true, cond_true, f58_i102_c7, hr1, Option.bind_some, Bool.not_false, List.append_nil]
      | cons c cr =>
        have hc : isCut p l c = true := mem_cutsL (by rw [hcs]; simp)
        have hc' : isCut p l' c = true := by rw [isCut_perm hp]; exact hc
        obtain ⟨r, hr1, hr2⟩ := f69_ok (N := N) (c := c) hpc'.small hpc'.fits (by omega) hN
        have g1 := hr2.is; have g2 := hr2.l1 hc'; have g3 := hr2.l2 hc'; have g4 := hr2.p1 hc'; have g5 := hr2.p2 hc'
        rw [hc'] at g1
        have q1 := g4.trans (hp.filter (before c))
        have q2 := g5.trans (hp.filter fun x => !before c x)
        have hsplit := split_len (l := l) (before c)
        obtain ⟨w1, w2⟩ := cut_lens hc
        have step : f58_i102_2 a N k0 (n + 1) (rest ++ [⟨p, l'⟩]) pl = f58_i102_2 a N k0 n (rest ++ [r.2.1] ++ [r.1]) (pl ++ [c]) := by
          simp only [f58_i102_2, f58_i102_2b, e1, cond_true, e2, e3, e4, Option.bind_some, decide_eq_false (show ¬ (l'.length : Int) < 2 by omega), cond_false, joinK, hcut, hcs]
          rw [decide_eq_false (show ¬ ((c :: cr).length : Int) = 0 by simp only [List.length_cons]; omega), cond_false]
          rw [show ix (c :: cr) (0 : Int) = some c from rfl]
          simp only [Option.bind_some]
          rw [app_ok (by simp; omega) (by simp; omega)]
          simp only [Option.bind_some, f58_i102_c7, hr1, Bool.not_true, cond_false, g1]
          rw [app_ok (by simp; omega) (by simp; omega)]
          simp only [Option.bind_some, List.append_assoc, List.singleton_append, List.cons_append, List.nil_append]
        have hr1e : r.1 = ⟨half1 p c, r.1.labels⟩ := by rw [← g2]
        have hr2e : r.2.1 = ⟨half2 p c, r.2.1.labels⟩ := by rw [← g3]
        have ih1 := ih (half1 p c) (l.filter (before c)) r.1.labels q1 (hpc.half1 hc) w1 (by omega) (by omega) (rest ++ [r.2.1]) (pl ++ [c]) n (2 * (l.filter fun x => !before c x).length - 1 + j) (by simp; omega) (by simp; omega) (by omega)
        rw [← hr1e] at ih1
        simp only
        cases hA : planR m (half1 p c) (l.filter (before c)) with
        | mk cs1 o1 =>
          rw [hA] at ih1
          cases o1 with
          | some q =>
            simp only at ih1 ⊢
            obtain ⟨l2, ih1⟩ := ih1
            exact ⟨l2, by rw [step, ih1]; simp⟩
          | none =>
            simp only at ih1 ⊢
            obtain ⟨n1, hn1, ih1, hl1⟩ := ih1
            have ih2 := ih (half2 p c) (l.filter fun x => !before c x) r.2.1.labels q2 (hpc.half2 hc) w2 (by omega) (by omega) rest (pl ++ [c] ++ cs1) n1 j (by omega) (by simp; omega) hn1
            rw [← hr2e] at ih2
            cases hB : planR m (half2 p c) (l.filter fun x => !before c x) with
            | mk cs2 o2 =>
              rw [hB] at ih2
              cases o2 with
              | some q =>
                simp only at ih2 ⊢
                obtain ⟨l2, ih2⟩ := ih2
                exact ⟨l2, by rw [step, ih1, ih2]; simp⟩
              | none =>
                simp only at ih2 ⊢
                obtain ⟨n2, hn2, ih2, hl2⟩ := ih2
                exact ⟨n2, hn2, by rw [step, ih1, ih2]; simp, by simp; omega⟩
def planS (L : Layout) : List Cut × Option Label := planR L.Labels.length (sheetOf L) L.Labels
theorem f58_eq {N : Nat} {L : Layout} (hv : Valid L) (hN : 30 < N) : match (planS L).2 with
    | none => f58 N L = some ((planS L).1, blank, true) ∧ (planS L).1.length + 1 = max 1 L.Labels.length
    | some q => ∃ l2, f58 N L = some ((planS L).1, ⟨q, l2⟩, false) := by
  have hlen := hv.len
  have fin : ∀ n pl, f58_i102_2 L N (f58_i102_c11 L) (n + 1) [] pl = some (pl, blank, true) := fun n pl => rfl
  have h0 : f58 N L = f58_i102_2 L N (f58_i102_c11 L) N ([] ++ [⟨sheetOf L, L.Labels⟩]) [] := rfl
  rw [h0]
  by_cases hz : L.Labels.length = 0
  · have hnil : L.Labels = [] := List.length_eq_zero_iff.1 hz
    obtain ⟨n, rfl⟩ : ∃ n, N = n + 2 := ⟨N - 2, by omega⟩
    have : planS L = ([], none) := by unfold planS; rw [hz]; rfl
    rw [this]
    refine ⟨?_, by rw [hz]; rfl⟩
    rw [hnil]; rfl
  · have := f58_stack (a := L) (k0 := f58_i102_c11 L) hN L.Labels.length (sheetOf L) L.Labels L.Labels (.refl _) ⟨hv.small, hv.fits⟩ (by omega) (Nat.le_refl _) (by omega) [] [] N 1 (by simp; omega) (by simp; omega) (by omega)
    revert this
    show (match (planS L).2 with | none => _ | some q => _) → _
    cases hq : (planS L).2 with
    | none =>
      rintro ⟨n', hn', h1, h2⟩
      obtain ⟨n', rfl⟩ : ∃ k, n' = k + 1 := ⟨n' - 1, by omega⟩
      refine ⟨?_, by show (planR _ _ _).1.length + 1 = _; omega⟩
      rw [h1, fin]; rfl
    | some q =>
      rintro ⟨l2, h1⟩
      exact ⟨l2, by rw [h1]; rfl⟩
end Go.Vc
namespace Go.Vc
open Go.Proofs
set_option linter.unusedVariables false
set_option linter.unnecessarySimpa false
set_option linter.unusedSimpArgs false
def f27_c6 (out3 : List Cut) : Option ((List Cut)) :=
 some (out3)
def f27_3b (r3 : (List Cut) → Int → Option ((List Cut))) (a0 : List Cut) (k0 : (List Cut) → Option ((List Cut))) (out3 : List Cut) (i4 : Int) : Option ((List Cut)) :=
 bif decide (i4 < (List.length a0 : Int)) then ((ix a0 i4).bind fun x1 =>
 (app 16 out3 [x1]).bind fun x2 =>
 r3 x2 (W (i4 + (1 : Int))))
 else (k0 out3)
def f27_3 (a0 : List Cut) (k0 : (List Cut) → Option ((List Cut))) : Nat → (List Cut) → Int → Option ((List Cut))
  | 0, _, _ => none
  | n + 1, out3, i4 => f27_3b (f27_3 a0 k0 n) a0 k0 out3 i4
def f27 (N : Nat) (a0 : List Cut) : Option ((List Cut)) :=
 joinK f27_c6 fun k0 =>
 f27_3 a0 k0 N [] (0 : Int)
end Go.Vc
namespace Go.Vc
open Go.Proofs
set_option linter.unusedVariables false
set_option linter.unnecessarySimpa false
set_option linter.unusedSimpArgs false
def f4 (N : Nat) (a0 : Layout) (a1 : List Cut) : Option (Bool) :=
 bif decide ((30 : Int) < (List.length a0.Labels : Int)) then ((f13 N ).bind fun x1 =>
 some (x1))
 else (bif decide ((30 : Int) < (List.length a1 : Int)) then ((f13 N ).bind fun x2 =>
 some (x2))
 else ((f14 N a0).bind fun x3 =>
 (f22 N a0).bind fun x4 =>
 (f23 N x3).bind fun x5 =>
 (f24 N a0).bind fun x6 =>
 bif decide (¬ x4.2 = x5) then (some (false))
 else ((f25 N a0 a1).bind fun x7 =>
 (f27 N a1).bind fun x8 =>
 (f26 N x3 x8).bind fun x9 =>
 bif decide (¬ x7 = x9) then (some (false))
 else (bif decide (x5 = (0 : Int)) then (bif decide (x6.2 = (14 : Int)) then (bif (decide (x6.1.X = (0 : Int)) && (decide (x6.1.Y = (0 : Int)) && (decide (x6.1.W = (0 : Int)) && (decide (x6.1.H = (0 : Int)) && true)))) then ((f27 N x4.1).bind fun x10 =>
 (f26 N x3 x10).bind fun x11 =>
 bif decide (x11 = (0 : Int)) then ((f13 N ).bind fun x12 =>
 some (x12))
 else (some (false)))
 else (some (false)))
 else (some (false)))
 else (bif decide ((0 : Int) < (List.length x4.1 : Int)) then (some (false))
 else (bif decide (x5 = (14 : Int)) then (bif decide (x6.2 = (0 : Int)) then ((f28 N x3 x6.1).bind fun x13 =>
 bif x13 then ((f13 N ).bind fun x14 =>
 some (x14))
 else (some (false)))
 else (some (false)))
 else (bif decide (x6.2 = x5) then (bif (decide (x6.1.X = (0 : Int)) && (decide (x6.1.Y = (0 : Int)) && (decide (x6.1.W = (0 : Int)) && (decide (x6.1.H = (0 : Int)) && true)))) then ((f13 N ).bind fun x15 =>
 some (x15))
 else (some (false)))
 else (some (false)))))))))
end Go.Vc
/-
  PLAIN LAWS OF CUT, 6: plans are accepted alike; blocked pieces; the statement CutPlans.
-/
namespace Go.Vc
set_option linter.unusedVariables false
set_option linter.unnecessarySimpa false
set_option linter.unusedSimpArgs false
set_option linter.unusedSimpArgs false

def planA (L : Layout) : List Cut × Int := if checkS L = 0 then (match (planS L).2 with | none => ((planS L).1, 0) | some _ => ([], 14)) else ([], checkS L)
def blockA (L : Layout) : Label × Int := if checkS L = 0 then (match (planS L).2 with | none => (⟨0, 0, 0, 0⟩, 14) | some q => (q, 0)) else (⟨0, 0, 0, 0⟩, checkS L)
theorem f22_eq {N : Nat} {L : Layout} (h : L.Labels.length ≤ 30) (hN : 30 < N) : f22 N L = some (planA L) := by
  unfold f22 planA
  simp only [f20_eq h hN, Option.bind_some]
  by_cases c : checkS L = 0
  · have hp := f58_eq (valid_of c) hN
    rw [if_pos c, decide_eq_false (Classical.not_not.2 c), cond_false]
    cases hq : (planS L).2 with
    | none => rw [hq] at hp; rw [hp.1]; rfl
    | some q => rw [hq] at hp; obtain ⟨l2, hp⟩ := hp; rw [hp]; rfl
  · rw [if_neg c, decide_eq_true c]; rfl
theorem f24_eq {N : Nat} {L : Layout} (h : L.Labels.length ≤ 30) (hN : 30 < N) : f24 N L = some (blockA L) := by
  unfold f24 blockA
  simp only [f20_eq h hN, Option.bind_some]
  by_cases c : checkS L = 0
  · have hp := f58_eq (valid_of c) hN
    rw [if_pos c, decide_eq_false (Classical.not_not.2 c), cond_false]
    cases hq : (planS L).2 with
    | none => rw [hq] at hp; rw [hp.1]; rfl
    | some q => rw [hq] at hp; obtain ⟨l2, hp⟩ := hp; rw [hp]; rfl
  · rw [if_neg c, decide_eq_true c]; rfl

/-! The document's apart. -/
theorem filter_in1 {p : Label} {l : List Label} {c : Cut} (h : Pc p l) (hc : isCut p l c = true) : l.filter (insideB (half1 p c)) = l.filter (before c) :=
  filter_congr' fun x hx => inside_half1 h.small (h.fits x hx) (isCut_parts hc).1
theorem filter_in2 {p : Label} {l : List Label} {c : Cut} (h : Pc p l) (hc : isCut p l c = true) : l.filter (insideB (half2 p c)) = l.filter fun x => !before c x :=
  filter_congr' fun x hx => by
    rw [inside_half2 h.small (h.fits x hx) (isCut_parts hc).1]
    cases hb : before c x with
    | true => rw [not_both (h.fits x hx) hb]; rfl
    | false => rw [behind_of hc hx hb]; rfl
theorem f59_eq : ∀ (m n : Nat) (p : Label) (l : List Label), Pc p l → l.length ≤ m → l.length ≤ 30 → 30 + l.length < n → f59 n l p = some (planR m p l).2.isNone := by
  intro m
  induction m with
  | zero =>
    intro n p l hp hm _ hn
    obtain ⟨n, rfl⟩ : ∃ k, n = k + 1 := ⟨n - 1, by omega⟩
    have : l = [] := List.length_eq_zero_iff.1 (by omega)
    subst this; rfl
  | succ m ih =>
    intro n p l hp hm h30 hn
    obtain ⟨n, rfl⟩ : ∃ k, n = k + 1 := ⟨n - 1, by omega⟩
    simp only [f59, f59b, planR]
    by_cases h2 : l.length < 2
    · rw [if_pos h2, decide_eq_true (show (l.length : Int) < 2 by omega)]; rfl
    · rw [if_neg h2, decide_eq_false (show ¬ (l.length : Int) < 2 by omega), cond_false, f46_eq hp.small hp.fits h30 (by omega)]
      simp only [Option.bind_some]
      cases hcs : cutsL p l with
      | nil => rfl
      | cons c cr =>
        have hc : isCut p l c = true := mem_cutsL (by rw [hcs]; simp)
        obtain ⟨w1, w2⟩ := cut_lens hc
        have hsplit := split_len (l := l) (before c)
        rw [decide_eq_false (show ¬ ((c :: cr).length : Int) = 0 by simp only [List.length_cons]; omega), cond_false, show ix (c :: cr) (0 : Int) = some c from rfl]
        simp only [Option.bind_some, f64_in hp.small (isCut_parts hc).1, f62_eq h30 (show 30 < n by omega), filter_in1 hp hc, filter_in2 hp hc]
        rw [ih n _ _ (hp.half1 hc) (by omega) (by omega) (by omega)]
        simp only [Option.bind_some]
        cases hA : planR m (half1 p c) (l.filter (before c)) with
        | mk cs1 o1 =>
          cases o1 with
          | some q => rfl
          | none =>
            simp only [Option.isNone_none, cond_true]
            rw [ih n _ _ (hp.half2 hc) (by omega) (by omega) (by omega)]
            rfl
def possS (L : Layout) : Int := if checkS L = 0 then (if (planS L).2 = none then 0 else 14) else checkS L
theorem f23_eq {N : Nat} {L : Layout} (h : L.Labels.length ≤ 30) (hN : 60 < N) : f23 N L = some (possS L) := by
  unfold f23 possS
  simp only [f21_eq h (show 30 < N by omega), Option.bind_some]
  by_cases c : checkS L = 0
  · have hv := valid_of c
    rw [if_pos c, decide_eq_true c, cond_true]
    simp only [f47, Option.bind_some]
    have := f59_eq L.Labels.length N (sheetOf L) L.Labels ⟨hv.small, hv.fits⟩ (Nat.le_refl _) h (by omega)
    simp only [sheetOf] at this
    rw [this]
    show ((some (planS L).2.isNone).bind _) = _
    cases hq : (planS L).2 with
    | none => simp [c]
    | some q => simp
  · rw [if_neg c, decide_eq_false c]; rfl

/-! Plans that are given. -/
inductive Ver where
  | err (e : Int)
  | left (r : List Cut)
def verR : Nat → Label → List Label → List Cut → Ver
  | 0, _, _, pl => .left pl
  | m + 1, p, l, pl => if l.length < 2 then .left pl else match pl with
    | [] => .err 22
    | c :: r => bif isCut p l c then (match verR m (half1 p c) (l.filter (before c)) r with
        | .err e => .err e
        | .left r' => verR m (half2 p c) (l.filter fun x => !before c x) r') else .err 13
theorem verR_perm : ∀ (m : Nat) {p : Label} {l l' : List Label} {pl : List Cut}, l.Perm l' → verR m p l pl = verR m p l' pl
  | 0, _, _, _, _, _ => rfl
  | m + 1, p, l, l', pl, h => by
    simp only [verR, h.length_eq]
    split
    · rfl
    · cases pl with
      | nil => rfl
      | cons c r => simp only [isCut_perm h, verR_perm m (h.filter (before c)), verR_perm m (h.filter fun x => !before c x)]
theorem f25_stack {N : Nat} {a : Layout} {pl : List Cut} {k1 : Int → Bool → Option Int} (hN : 30 < N) (hpl : pl.length ≤ 30) : ∀ (m : Nat) (p : Label) (l l' : List Label), l'.Perm l → Pc p l → 1 ≤ l.length → l.length ≤ m → l.length ≤ 30 → ∀ (rest : List Piece) (i n j : Nat), rest.length + l.length ≤ 100 → i ≤ pl.length →
    2 * l.length - 1 + j ≤ n → (match verR m p l (pl.drop i) with
      | .left r => ∃ n' i', j ≤ n' ∧ i' ≤ pl.length ∧ r = pl.drop i' ∧ f25_i502_2 a pl N (f25_c6 pl) k1 n (rest ++ [⟨p, l'⟩]) (i : Int) false = f25_i502_2 a pl N (f25_c6 pl) k1 n' rest (i' : Int) false
      | .err e => f25_i502_2 a pl N (f25_c6 pl) k1 n (rest ++ [⟨p, l'⟩]) (i : Int) false = some e) := by
  intro m
  induction m with
  | zero => intro p l l' _ _ h1 h2; omega
  | succ m ih =>
    intro p l l' hp hpc h1 hm h30 rest i n j hr hi hn
    obtain ⟨n, rfl⟩ : ∃ k, n = k + 1 := ⟨n - 1, by omega⟩
    obtain ⟨e1, e2, e3, e4⟩ := stk (r := rest) (x := (⟨p, l'⟩ : Piece)) (by omega)
    have hlen := hp.length_eq
    simp only [verR]
    by_cases h2 : l.length < 2
    · rw [if_pos h2]
      refine ⟨n, i, by omega, hi, rfl, ?_⟩
      simp only [f25_i502_2, f25_i502_2b, e1, cond_true, e2, e3, e4, Option.bind_some, decide_eq_true (show (l'.length : Int) < 2 by omega)]
    · rw [if_neg h2]
      have hpc' := hpc.perm hp
      by_cases hil : i = pl.length
      · subst hil
        rw [List.drop_length]
        obtain ⟨r, hr1, hr2⟩ := f69_ok (N := N) (p := p) (l := l') (c := ⟨false, 0⟩) hpc'.small hpc'.fits (by omega) hN
        simp only [f25_i502_2, f25_i502_2b, e1, cond_true, e2, e3, e4, Option.bind_some, decide_eq_false (show ¬ (l'.length : Int) < 2 by omega), cond_false, joinK, decide_true, f25_i502_c7, hr1, Bool.not_false, f25_c6]
      · have hil : i < pl.length := by omega
        have hd : pl.drop i = pl[i] :: pl.drop (i + 1) := (List.getElem_cons_drop hil).symm
        have hx : pl[i]? = some pl[i] := by simp [hil]
        rw [hd]
        generalize pl[i] = c at hx
        obtain ⟨r, hr1, hr2⟩ := f69_ok (N := N) (c := c) hpc'.small hpc'.fits (by omega) hN
        have step0 : f25_i502_2 a pl N (f25_c6 pl) k1 (n + 1) (rest ++ [⟨p, l'⟩]) (i : Int) false = f25_i502_c7 a pl N (f25_c6 pl) (f25_i502_2 a pl N (f25_c6 pl) k1 n) ⟨p, l'⟩ rest true c.Up c.At ((i + 1 : Nat) : Int) false := by
          simp only [f25_i502_2, f25_i502_2b, e1, cond_true, e2, e3, e4, Option.bind_some, decide_eq_false (show ¬ (l'.length : Int) < 2 by omega), cond_false, joinK, decide_eq_false (show ¬ (i : Int) = (pl.length : Int) by omega)]
          rw [W_nat (show i < 9223372036854775807 by omega), show W (((i + 1 : Nat) : Int) - 1) = (i : Int) from by rw [W_in (by omega) (by omega)]; omega, ix_nat, hx]
          rfl
        have g1 := hr2.is
        rw [isCut_perm hp] at g1
        simp only
        cases hc : isCut p l c with
        | false =>
          rw [hc] at g1
          rw [cond_false]
          simp only [step0, f25_i502_c7, hr1, Option.bind_some, Bool.not_true, cond_false, g1, Bool.not_false, cond_true, f25_c6]
        | true =>
          have hc' : isCut p l' c = true := by rw [isCut_perm hp]; exact hc
          have g2 := hr2.l1 hc'; have g3 := hr2.l2 hc'; have g4 := hr2.p1 hc'; have g5 := hr2.p2 hc'
          rw [hc] at g1
          have q1 := g4.trans (hp.filter (before c))
          have q2 := g5.trans (hp.filter fun x => !before c x)
          have hsplit := split_len (l := l) (before c)
          obtain ⟨w1, w2⟩ := cut_lens hc
          have step : f25_i502_2 a pl N (f25_c6 pl) k1 (n + 1) (rest ++ [⟨p, l'⟩]) (i : Int) false = f25_i502_2 a pl N (f25_c6 pl) k1 n (rest ++ [r.2.1] ++ [r.1]) ((i + 1 : Nat) : Int) false := by
            rw [step0]
            simp only [f25_i502_c7, hr1, Option.bind_some, Bool.not_true, cond_false, g1]
            rw [app_ok (by simp; omega) (by simp; omega)]
            simp only [Option.bind_some, List.append_assoc, List.singleton_append, List.cons_append, List.nil_append]
          have hr1e : r.1 = ⟨half1 p c, r.1.labels⟩ := by rw [← g2]
          have hr2e : r.2.1 = ⟨half2 p c, r.2.1.labels⟩ := by rw [← g3]
          have ih1 := ih (half1 p c) (l.filter (before c)) r.1.labels q1 (hpc.half1 hc) w1 (by omega) (by omega) (rest ++ [r.2.1]) (i + 1) n (2 * (l.filter fun x => !before c x).length - 1 + j) (by simp; omega) (by omega) (by omega)
          rw [← hr1e] at ih1
          rw [cond_true]
          cases hA : verR m (half1 p c) (l.filter (before c)) (pl.drop (i + 1)) with
          | err e =>
            rw [hA] at ih1
            simp only at ih1 ⊢
            rw [step, ih1]
          | left r' =>
            rw [hA] at ih1
            simp only at ih1 ⊢
            obtain ⟨n1, i1, hn1, hi1, rfl, ih1⟩ := ih1
            have ih2 := ih (half2 p c) (l.filter fun x => !before c x) r.2.1.labels q2 (hpc.half2 hc) w2 (by omega) (by omega) rest i1 n1 j (by omega) hi1 hn1
            rw [← hr2e] at ih2
            cases hB : verR m (half2 p c) (l.filter fun x => !before c x) (pl.drop i1) with
            | err e =>
              rw [hB] at ih2
              simp only at ih2 ⊢
              rw [step, ih1, ih2]
            | left r2 =>
              rw [hB] at ih2
              simp only at ih2 ⊢
              obtain ⟨n2, i2, hn2, hi2, he, ih2⟩ := ih2
              exact ⟨n2, i2, hn2, hi2, he, by rw [step, ih1, ih2]⟩
def verE : Ver → Int
  | .err e => e
  | .left [] => 0
  | .left (_ :: _) => 21
def verS (L : Layout) (pl : List Cut) : Int := if checkS L = 0 then verE (verR L.Labels.length (sheetOf L) L.Labels pl) else checkS L
theorem left_len {pl : List Cut} {i : Nat} (h : i ≤ pl.length) : verE (.left (pl.drop i)) = if (i : Int) < (pl.length : Int) then 21 else 0 := by
  by_cases hi : i < pl.length
  · rw [(List.getElem_cons_drop hi).symm, if_pos (by omega)]; rfl
  · have : i = pl.length := by omega
    subst this
    rw [List.drop_length, if_neg (by omega)]; rfl
theorem f25_eq {N : Nat} {L : Layout} {pl : List Cut} (h : L.Labels.length ≤ 30) (hpl : pl.length ≤ 30) (hN : 30 < N) : f25 N L pl = some (verS L pl) := by
  unfold f25 verS
  simp only [f20_eq h hN, Option.bind_some]
  by_cases c : checkS L = 0
  · have hv := valid_of c
    have hlen := hv.len
    rw [if_pos c, decide_eq_false (Classical.not_not.2 c), cond_false]
    simp only [joinK, f44, Option.bind_some]
    have fin : ∀ n (i : Nat), f25_i502_2 L pl N (f25_c6 pl) (f25_i502_c11 L pl (f25_c6 pl)) (n + 1) [] (i : Int) false = some (if (i : Int) < (pl.length : Int) then 21 else 0) := by
      intro n i
      simp only [f25_i502_2, f25_i502_2b, List.length_nil, Int.ofNat_eq_natCast, Int.natCast_zero, Int.lt_irrefl, decide_false, cond_false, f25_i502_c11, f25_c6, Bool.not_true]
      by_cases hi : (i : Int) < (pl.length : Int)
      · rw [decide_eq_true hi, if_pos hi]; rfl
      · rw [decide_eq_false hi, if_neg hi]; rfl
    show f25_i502_2 L pl N (f25_c6 pl) (f25_i502_c11 L pl (f25_c6 pl)) N ([] ++ [⟨sheetOf L, L.Labels⟩]) ((0 : Nat) : Int) false = _
    by_cases hz : L.Labels.length = 0
    · have hnil : L.Labels = [] := List.length_eq_zero_iff.1 hz
      obtain ⟨n, rfl⟩ : ∃ n, N = n + 2 := ⟨N - 2, by omega⟩
      rw [hz]
      simp only [verR]
      have := left_len (pl := pl) (i := 0) (by omega)
      rw [List.drop_zero] at this
      rw [this, ← fin n 0, hnil]
      rfl
    · have := f25_stack (a := L) (k1 := f25_i502_c11 L pl (f25_c6 pl)) hN hpl L.Labels.length (sheetOf L) L.Labels L.Labels (.refl _) ⟨hv.small, hv.fits⟩ (by omega) (Nat.le_refl _) (by omega) [] 0 N 1 (by simp; omega) (by omega) (by omega)
      rw [List.drop_zero] at this
      cases hq : verR L.Labels.length (sheetOf L) L.Labels pl with
      | err e => rw [hq] at this; exact this
      | left r =>
        rw [hq] at this
        obtain ⟨n', i', hn', hi', rfl, h1⟩ := this
        obtain ⟨n', rfl⟩ : ∃ k, n' = k + 1 := ⟨n' - 1, by omega⟩
        rw [h1, fin, left_len hi']
  · rw [if_neg c, decide_eq_true c]; rfl

/-! The document's Verify: pieces by their labels inside. -/
theorem inside_sub1 {p x : Label} {c : Cut} (hs : Small p) (hc : inner c p = true) (hx : ∃ q, Small q ∧ Fits q x) (h : insideB (half1 p c) x = true) : insideB p x = true := by
  have s1 := hs.x0; have s2 := hs.y0; have s3 := hs.x1; have s4 := hs.y1; have s5 := hs.w; have s6 := hs.h
  obtain ⟨q, hq, hf⟩ := hx
  have u1 := hq.x0; have u2 := hq.y0; have u3 := hq.x1; have u4 := hq.y1
  have t1 := hf.w; have t2 := hf.h; have t3 := hf.x0; have t4 := hf.y0; have t5 := hf.x1; have t6 := hf.y1
  obtain ⟨up, a⟩ := c
  unfold inner at hc
  rw [Bool.and_eq_true, decide_eq_true_iff, decide_eq_true_iff] at hc
  rw [insideB_iff (by omega) (by omega)]
  cases up with
  | true =>
    have hc : p.X + 1 ≤ a ∧ a ≤ p.X + p.W - 1 := hc
    rw [insideB_iff (p := half1 p ⟨true, a⟩) (x := x) (by show -1000 ≤ p.X + (a - p.X) ∧ p.X + (a - p.X) ≤ 1000 ∧ -1000 ≤ p.Y + p.H ∧ p.Y + p.H ≤ 1000; omega) (by omega)] at h
    have h : p.X ≤ x.X ∧ p.Y ≤ x.Y ∧ x.X + x.W ≤ p.X + (a - p.X) ∧ x.Y + x.H ≤ p.Y + p.H := h
    omega
  | false =>
    have hc : p.Y + 1 ≤ a ∧ a ≤ p.Y + p.H - 1 := hc
    rw [insideB_iff (p := half1 p ⟨false, a⟩) (x := x) (by show -1000 ≤ p.X + p.W ∧ p.X + p.W ≤ 1000 ∧ -1000 ≤ p.Y + (a - p.Y) ∧ p.Y + (a - p.Y) ≤ 1000; omega) (by omega)] at h
    have h : p.X ≤ x.X ∧ p.Y ≤ x.Y ∧ x.X + x.W ≤ p.X + p.W ∧ x.Y + x.H ≤ p.Y + (a - p.Y) := h
    omega
theorem inside_sub2 {p x : Label} {c : Cut} (hs : Small p) (hc : inner c p = true) (hx : ∃ q, Small q ∧ Fits q x) (h : insideB (half2 p c) x = true) : insideB p x = true := by
  have s1 := hs.x0; have s2 := hs.y0; have s3 := hs.x1; have s4 := hs.y1; have s5 := hs.w; have s6 := hs.h
  obtain ⟨q, hq, hf⟩ := hx
  have u1 := hq.x0; have u2 := hq.y0; have u3 := hq.x1; have u4 := hq.y1
  have t1 := hf.w; have t2 := hf.h; have t3 := hf.x0; have t4 := hf.y0; have t5 := hf.x1; have t6 := hf.y1
  obtain ⟨up, a⟩ := c
  unfold inner at hc
  rw [Bool.and_eq_true, decide_eq_true_iff, decide_eq_true_iff] at hc
  rw [insideB_iff (by omega) (by omega)]
  cases up with
  | true =>
    have hc : p.X + 1 ≤ a ∧ a ≤ p.X + p.W - 1 := hc
    rw [insideB_iff (p := half2 p ⟨true, a⟩) (x := x) (by show -1000 ≤ a + (p.X + p.W - a) ∧ a + (p.X + p.W - a) ≤ 1000 ∧ -1000 ≤ p.Y + p.H ∧ p.Y + p.H ≤ 1000; omega) (by omega)] at h
    have h : a ≤ x.X ∧ p.Y ≤ x.Y ∧ x.X + x.W ≤ a + (p.X + p.W - a) ∧ x.Y + x.H ≤ p.Y + p.H := h
    omega
  | false =>
    have hc : p.Y + 1 ≤ a ∧ a ≤ p.Y + p.H - 1 := hc
    rw [insideB_iff (p := half2 p ⟨false, a⟩) (x := x) (by show -1000 ≤ p.X + p.W ∧ p.X + p.W ≤ 1000 ∧ -1000 ≤ a + (p.Y + p.H - a) ∧ a + (p.Y + p.H - a) ≤ 1000; omega) (by omega)] at h
    have h : p.X ≤ x.X ∧ a ≤ x.Y ∧ x.X + x.W ≤ p.X + p.W ∧ x.Y + x.H ≤ a + (p.Y + p.H - a) := h
    omega
theorem inside_fits {p x : Label} (hs : Small p) (hx : ∃ q, Small q ∧ Fits q x) (h : insideB p x = true) : Fits p x := by
  have s1 := hs.x0; have s2 := hs.y0; have s3 := hs.x1; have s4 := hs.y1; have s5 := hs.w; have s6 := hs.h
  obtain ⟨q, hq, hf⟩ := hx
  have u1 := hq.x0; have u2 := hq.y0; have u3 := hq.x1; have u4 := hq.y1
  have t1 := hf.w; have t2 := hf.h; have t3 := hf.x0; have t4 := hf.y0; have t5 := hf.x1; have t6 := hf.y1
  rw [insideB_iff (by omega) (by omega)] at h
  exact ⟨t1, t2, by omega, by omega, by omega, by omega⟩
/-- labels that lie in a sheet -/
def Laid (S : List Label) : Prop := ∀ x, x ∈ S → ∃ q, Small q ∧ Fits q x
theorem inside_half1_all {S : List Label} {p : Label} {c : Cut} (hS : Laid S) (hs : Small p) (hc : inner c p = true) : S.filter (insideB (half1 p c)) = (S.filter (insideB p)).filter (before c) := by
  rw [List.filter_filter]
  refine List.filter_congr fun x hx => ?_
  cases hp : insideB p x with
  | true =>
    have hf := inside_fits hs (hS x hx) hp
    rw [inside_half1 hs hf hc, Bool.and_true]
  | false =>
    rw [Bool.and_false]
    cases hh : insideB (half1 p c) x with
    | false => rfl
    | true => rw [inside_sub1 hs hc (hS x hx) hh] at hp; cases hp
theorem inside_half2_all {S : List Label} {p : Label} {c : Cut} (hS : Laid S) (hs : Small p) (hc : isCut p (S.filter (insideB p)) c = true) : S.filter (insideB (half2 p c)) = (S.filter (insideB p)).filter fun x => !before c x := by
  rw [List.filter_filter]
  refine List.filter_congr fun x hx => ?_
  have hin := (isCut_parts hc).1
  cases hp : insideB p x with
  | true =>
    have hf := inside_fits hs (hS x hx) hp
    rw [inside_half2 hs hf hin, Bool.and_true]
    cases hb : before c x with
    | true => rw [not_both hf hb]; rfl
    | false => rw [behind_of hc (List.mem_filter.2 ⟨hx, hp⟩) hb]; rfl
  | false =>
    rw [Bool.and_false]
    cases hh : insideB (half2 p c) x with
    | false => rfl
    | true => rw [inside_sub2 hs hin (hS x hx) hh] at hp; cases hp
theorem pc_inside {S : List Label} {p : Label} (hS : Laid S) (hs : Small p) : Pc p (S.filter (insideB p)) := ⟨hs, fun x hx => inside_fits hs (hS x (List.mem_filter.1 hx).1) (List.mem_filter.1 hx).2⟩
theorem f26_stack {N : Nat} {a : Layout} {pl : List Cut} (hS : Laid a.Labels) (ha : a.Labels.length ≤ 30) (hN : 30 < N) (hpl : pl.length ≤ 30) : ∀ (m : Nat) (p : Label) (l : List Label), l = a.Labels.filter (insideB p) → Small p → 1 ≤ l.length → l.length ≤ m → l.length ≤ 30 → ∀ (rest : List Label) (i n j : Nat), rest.length + l.length ≤ 100 → i ≤ pl.length →
    2 * l.length - 1 + j ≤ n → (match verR m p l (pl.drop i) with
      | .left r => ∃ n' i', j ≤ n' ∧ i' ≤ pl.length ∧ r = pl.drop i' ∧ f26_6 a pl N (f26_c18 pl) n (rest ++ [p]) (i : Int) = f26_6 a pl N (f26_c18 pl) n' rest (i' : Int)
      | .err e => f26_6 a pl N (f26_c18 pl) n (rest ++ [p]) (i : Int) = some e) := by
  intro m
  induction m with
  | zero => intro p l _ _ h1 h2; omega
  | succ m ih =>
    intro p l hl hs h1 hm h30 rest i n j hr hi hn
    obtain ⟨n, rfl⟩ : ∃ k, n = k + 1 := ⟨n - 1, by omega⟩
    obtain ⟨e1, e2, e3, e4⟩ := stk (r := rest) (x := p) (by omega)
    have hpc : Pc p l := by rw [hl]; exact pc_inside hS hs
    simp only [verR]
    by_cases h2 : l.length < 2
    · rw [if_pos h2]
      refine ⟨n, i, by omega, hi, rfl, ?_⟩
      simp only [f26_6, f26_6b, e1, cond_true, e2, e3, e4, Option.bind_some, f62_eq ha hN, ← hl, decide_eq_true (show (l.length : Int) < 2 by omega)]
    · rw [if_neg h2]
      by_cases hil : i = pl.length
      · subst hil
        rw [List.drop_length]
        simp only [f26_6, f26_6b, e1, cond_true, e2, e3, e4, Option.bind_some, f62_eq ha hN, ← hl, decide_eq_false (show ¬ (l.length : Int) < 2 by omega), cond_false, decide_true]
      · have hil : i < pl.length := by omega
        have hd : pl.drop i = pl[i] :: pl.drop (i + 1) := (List.getElem_cons_drop hil).symm
        have hx : pl[i]? = some pl[i] := by simp [hil]
        rw [hd]
        generalize pl[i] = c at hx
        simp only
        cases hc : isCut p l c with
        | false =>
          rw [cond_false]
          simp only [f26_6, f26_6b, e1, cond_true, e2, e3, e4, Option.bind_some, f62_eq ha hN, ← hl, decide_eq_false (show ¬ (l.length : Int) < 2 by omega), cond_false, decide_eq_false (show ¬ (i : Int) = (pl.length : Int) by omega), ix_nat, hx, f63_eq hpc.small hpc.fits h30 hN, hc, Bool.not_false]
        | true =>
          have hin := (isCut_parts hc).1
          have hsplit := split_len (l := l) (before c)
          obtain ⟨w1, w2⟩ := cut_lens hc
          have step : f26_6 a pl N (f26_c18 pl) (n + 1) (rest ++ [p]) (i : Int) = f26_6 a pl N (f26_c18 pl) n (rest ++ [half2 p c] ++ [half1 p c]) ((i + 1 : Nat) : Int) := by
            simp only [f26_6, f26_6b, e1, cond_true, e2, e3, e4, Option.bind_some, f62_eq ha hN, ← hl, decide_eq_false (show ¬ (l.length : Int) < 2 by omega), cond_false, decide_eq_false (show ¬ (i : Int) = (pl.length : Int) by omega), ix_nat, hx, f63_eq hpc.small hpc.fits h30 hN, hc, Bool.not_true, f64_in hs hin]
            rw [app_ok (by simp; omega) (by simp; omega), W_nat (show i < 9223372036854775807 by omega)]
            simp only [Option.bind_some, List.append_assoc, List.singleton_append, List.cons_append, List.nil_append]
          have ih1 := ih (half1 p c) (l.filter (before c)) (by rw [inside_half1_all hS hs hin, ← hl]) (small_half1 hs hin) w1 (by omega) (by omega) (rest ++ [half2 p c]) (i + 1) n (2 * (l.filter fun x => !before c x).length - 1 + j) (by simp; omega) (by omega) (by omega)
          rw [cond_true]
          cases hA : verR m (half1 p c) (l.filter (before c)) (pl.drop (i + 1)) with
          | err e =>
            rw [hA] at ih1
            simp only at ih1 ⊢
            rw [step, ih1]
          | left r' =>
            rw [hA] at ih1
            simp only at ih1 ⊢
            obtain ⟨n1, i1, hn1, hi1, rfl, ih1⟩ := ih1
            have ih2 := ih (half2 p c) (l.filter fun x => !before c x) (by rw [inside_half2_all hS hs (by rw [← hl]; exact hc), ← hl]) (small_half2 hs hin) w2 (by omega) (by omega) rest i1 n1 j (by omega) hi1 hn1
            cases hB : verR m (half2 p c) (l.filter fun x => !before c x) (pl.drop i1) with
            | err e =>
              rw [hB] at ih2
              simp only at ih2 ⊢
              rw [step, ih1, ih2]
            | left r2 =>
              rw [hB] at ih2
              simp only at ih2 ⊢
              obtain ⟨n2, i2, hn2, hi2, he, ih2⟩ := ih2
              exact ⟨n2, i2, hn2, hi2, he, by rw [step, ih1, ih2]⟩
theorem inside_sheet {L : Layout} (hv : Valid L) : L.Labels.filter (insideB (sheetOf L)) = L.Labels := by
  rw [List.filter_eq_self]
  intro x hx
  have s := hv.small
  have s1 := s.x0; have s2 := s.y0; have s3 := s.x1; have s4 := s.y1; have s5 := s.w; have s6 := s.h
  have hf := hv.fits x hx
  have t1 := hf.w; have t2 := hf.h; have t3 := hf.x0; have t4 := hf.y0; have t5 := hf.x1; have t6 := hf.y1
  rw [insideB_iff (by omega) (by omega)]
  exact ⟨t3, t4, t5, t6⟩
theorem Valid.laid {L : Layout} (hv : Valid L) : Laid L.Labels := fun x hx => ⟨_, hv.small, hv.fits x hx⟩
theorem f26_eq {N : Nat} {L : Layout} {pl : List Cut} (h : L.Labels.length ≤ 30) (hpl : pl.length ≤ 30) (hN : 30 < N) : f26 N L pl = some (verS L pl) := by
  unfold f26 verS
  simp only [f21_eq h hN, Option.bind_some]
  by_cases c : checkS L = 0
  · have hv := valid_of c
    have hlen := hv.len
    rw [if_pos c, decide_eq_false (Classical.not_not.2 c), cond_false]
    simp only [joinK, f47, Option.bind_some]
    have fin : ∀ n (i : Nat), f26_6 L pl N (f26_c18 pl) (n + 1) [] (i : Int) = some (if (i : Int) < (pl.length : Int) then 21 else 0) := by
      intro n i
      simp only [f26_6, f26_6b, List.length_nil, Int.ofNat_eq_natCast, Int.natCast_zero, Int.lt_irrefl, decide_false, cond_false, f26_c18]
      by_cases hi : (i : Int) < (pl.length : Int)
      · rw [decide_eq_true hi, if_pos hi]; rfl
      · rw [decide_eq_false hi, if_neg hi]; rfl
    show f26_6 L pl N (f26_c18 pl) N ([] ++ [sheetOf L]) ((0 : Nat) : Int) = _
    by_cases hz : L.Labels.length = 0
    · have hnil : L.Labels = [] := List.length_eq_zero_iff.1 hz
      obtain ⟨n, rfl⟩ : ∃ n, N = n + 2 := ⟨N - 2, by omega⟩
      rw [hz]
      simp only [verR]
      have := left_len (pl := pl) (i := 0) (by omega)
      rw [List.drop_zero] at this
      rw [this, ← fin n 0]
      have hf62 : f62 (n + 2) L.Labels (sheetOf L) = some [] := by rw [f62_eq h (by omega), hnil]; rfl
      show f26_6b _ L pl (n + 2) (f26_c18 pl) [sheetOf L] ((0 : Nat) : Int) = _
      unfold f26_6b
      rw [show decide ((0 : Int) < (List.length [sheetOf L] : Int)) = true from rfl, cond_true, show ix [sheetOf L] (W ((List.length [sheetOf L] : Int) - (1 : Int))) = some (sheetOf L) from rfl, show sub [sheetOf L] 0 (W ((List.length [sheetOf L] : Int) - (1 : Int))) = some [] from rfl]
      simp only [Option.bind_some, hf62]
      rfl
    · have := f26_stack (a := L) hv.laid h hN hpl L.Labels.length (sheetOf L) L.Labels (inside_sheet hv).symm hv.small (by omega) (Nat.le_refl _) (by omega) [] 0 N 1 (by simp; omega) (by omega) (by omega)
      rw [List.drop_zero] at this
      cases hq : verR L.Labels.length (sheetOf L) L.Labels pl with
      | err e => rw [hq] at this; exact this
      | left r =>
        rw [hq] at this
        obtain ⟨n', i', hn', hi', rfl, h1⟩ := this
        obtain ⟨n', rfl⟩ : ∃ k, n' = k + 1 := ⟨n' - 1, by omega⟩
        rw [h1, fin, left_len hi']
  · rw [if_neg c, decide_eq_true c]; rfl
end Go.Vc
/-
  PLAIN LAWS OF CUT, 7: the plan is accepted; the blocked piece is reached; the statement CutPlans.
-/
namespace Go.Vc
set_option linter.unusedVariables false
set_option linter.unnecessarySimpa false
set_option linter.unusedSimpArgs false
set_option linter.unusedSimpArgs false

theorem f27_eq {N : Nat} {a : List Cut} (h : a.length ≤ 30) (hN : 30 < N) : f27 N a = some a := by
  show f27_3 a f27_c6 N [] (0 : Int) = _
  have := loopL (l := a) (F := fun n s i => f27_3 a f27_c6 n s i) (g := fun _ x (o : List Cut) c => (app 16 o [x]).bind c) (k := f27_c6)
    (fun n s i x hx => by
      have hi := (List.getElem?_eq_some_iff.1 hx).1
      simp only [f27_3, f27_3b, ix_nat, hx, Option.bind_some, decide_eq_true (show (i : Int) < (a.length : Int) by omega), cond_true, W_nat (show i < 9223372036854775807 by omega)])
    (fun n s => by simp [f27_3, f27_3b]) N [] (by omega)
  refine this.trans ?_
  rw [foldK_copy _ _ _ (by simp; omega) (by simp; omega)]
  simp [f27_c6]
/-- the plan is accepted, and nothing of what follows it is used -/
theorem plan_ver : ∀ (m : Nat) (p : Label) (l : List Label) (r : List Cut), l.length ≤ m → (planR m p l).2 = none → verR m p l ((planR m p l).1 ++ r) = .left r
  | 0, _, _, _, _, _ => rfl
  | m + 1, p, l, r, hm, h => by
    simp only [planR, verR] at *
    by_cases h2 : l.length < 2
    · rw [if_pos h2] at *; rw [if_pos h2]; rfl
    · rw [if_neg h2] at *
      rw [if_neg h2]
      cases hcs : cutsL p l with
      | nil => rw [hcs] at h; cases h
      | cons c cr =>
        have hc : isCut p l c = true := mem_cutsL (by rw [hcs]; simp)
        obtain ⟨w1, w2⟩ := cut_lens hc
        have hsplit := split_len (l := l) (before c)
        rw [hcs] at h
        simp only at h ⊢
        have i1 := fun r' => plan_ver m (half1 p c) (l.filter (before c)) r' (by omega)
        have i2 := fun r' => plan_ver m (half2 p c) (l.filter fun x => !before c x) r' (by omega)
        cases hA : planR m (half1 p c) (l.filter (before c)) with
        | mk cs1 o1 =>
          rw [hA] at h i1
          cases o1 with
          | some q => cases h
          | none =>
            simp only at h ⊢
            cases hB : planR m (half2 p c) (l.filter fun x => !before c x) with
            | mk cs2 o2 =>
              rw [hB] at h i2
              simp only at h
              subst h
              simp only [List.cons_append, hc, cond_true, List.append_assoc]
              have := i1 (cs2 ++ r) rfl
              simp only at this
              rw [this]
              exact i2 r rfl
/-- the piece that is blocked can't be cut, holds labels, and is reached by cuts -/
inductive Reach (S : List Label) : Label → Label → Prop where
  | here (p : Label) : Reach S p p
  | one {p q : Label} {c : Cut} (hc : c ∈ cutsL p (S.filter (insideB p))) (h : Reach S (half1 p c) q) : Reach S p q
  | two {p q : Label} {c : Cut} (hc : c ∈ cutsL p (S.filter (insideB p))) (h : Reach S (half2 p c) q) : Reach S p q
theorem plan_block {S : List Label} (hS : Laid S) : ∀ (m : Nat) (p q : Label), Small p → (S.filter (insideB p)).length ≤ m → (planR m p (S.filter (insideB p))).2 = some q →
    Reach S p q ∧ Small q ∧ 2 ≤ (S.filter (insideB q)).length ∧ cutsL q (S.filter (insideB q)) = []
  | 0, p, q, _, _, h => by cases h
  | m + 1, p, q, hs, hm, h => by
    simp only [planR] at h
    by_cases h2 : (S.filter (insideB p)).length < 2
    · rw [if_pos h2] at h; cases h
    · rw [if_neg h2] at h
      cases hcs : cutsL p (S.filter (insideB p)) with
      | nil =>
        rw [hcs] at h
        simp only [Option.some.injEq] at h
        subst h
        exact ⟨.here _, hs, by omega, hcs⟩
      | cons c cr =>
        have hmem : c ∈ cutsL p (S.filter (insideB p)) := by rw [hcs]; simp
        have hc := mem_cutsL hmem
        have hin := (isCut_parts hc).1
        obtain ⟨w1, w2⟩ := cut_lens hc
        have hsplit := split_len (l := S.filter (insideB p)) (before c)
        rw [hcs] at h
        simp only at h
        rw [← inside_half1_all hS hs hin, ← inside_half2_all hS hs hc] at h
        have e1 := inside_half1_all hS hs hin
        have e2 := inside_half2_all hS hs hc
        cases hA : planR m (half1 p c) (S.filter (insideB (half1 p c))) with
        | mk cs1 o1 =>
          rw [hA] at h
          cases o1 with
          | some q' =>
            simp only [Option.some.injEq] at h
            subst h
            obtain ⟨a1, a2, a3, a4⟩ := plan_block hS m (half1 p c) q' (small_half1 hs hin) (by rw [e1]; omega) (by rw [hA])
            exact ⟨.one hmem a1, a2, a3, a4⟩
          | none =>
            simp only at h
            obtain ⟨a1, a2, a3, a4⟩ := plan_block hS m (half2 p c) q (small_half2 hs hin) (by rw [e2]; omega) h
            exact ⟨.two hmem a1, a2, a3, a4⟩
/-! reached: all ways are tried -/
theorem label_eqB {x y : Label} : (decide (x.X = y.X) && (decide (x.Y = y.Y) && (decide (x.W = y.W) && (decide (x.H = y.H) && true)))) = decide (x = y) := by
  obtain ⟨a, b, c, d⟩ := x
  obtain ⟨a', b', c', d'⟩ := y
  rw [Bool.eq_iff_iff]
  simp
def reachB (S : List Label) (q : Label) : Nat → Label → Bool
  | 0, _ => false
  | m + 1, p => decide (p = q) || (cutsL p (S.filter (insideB p))).any fun c => reachB S q m (half1 p c) || reachB S q m (half2 p c)
theorem reachB_of {S : List Label} (hS : Laid S) : ∀ (m : Nat) (p q : Label), Small p → (S.filter (insideB p)).length < m → Reach S p q → reachB S q m p = true := by
  intro m p q hs hm h
  induction h generalizing m with
  | here p => obtain ⟨m, rfl⟩ : ∃ k, m = k + 1 := ⟨m - 1, by omega⟩; simp [reachB]
  | @one p q c hc h ih =>
    obtain ⟨m, rfl⟩ : ∃ k, m = k + 1 := ⟨m - 1, by omega⟩
    have hc' := mem_cutsL hc
    have hin := (isCut_parts hc').1
    obtain ⟨w1, w2⟩ := cut_lens hc'
    have hsplit := split_len (l := S.filter (insideB p)) (before c)
    have := ih m (small_half1 hs hin) (by rw [inside_half1_all hS hs hin]; omega)
    simp only [reachB, Bool.or_eq_true]
    right
    exact List.any_eq_true.2 ⟨c, hc, by rw [this]; rfl⟩
  | @two p q c hc h ih =>
    obtain ⟨m, rfl⟩ : ∃ k, m = k + 1 := ⟨m - 1, by omega⟩
    have hc' := mem_cutsL hc
    have hin := (isCut_parts hc').1
    obtain ⟨w1, w2⟩ := cut_lens hc'
    have hsplit := split_len (l := S.filter (insideB p)) (before c)
    have := ih m (small_half2 hs hin) (by rw [inside_half2_all hS hs hc']; omega)
    simp only [reachB, Bool.or_eq_true]
    right
    exact List.any_eq_true.2 ⟨c, hc, by rw [this]; simp⟩
theorem filter_twice1 {S : List Label} {p : Label} {c : Cut} (hS : Laid S) (hs : Small p) (hc : inner c p = true) : (S.filter (insideB p)).filter (insideB (half1 p c)) = S.filter (insideB (half1 p c)) := by
  rw [inside_half1_all hS hs hc]
  exact filter_congr' fun x hx => inside_half1 hs (inside_fits hs (hS x (List.mem_filter.1 hx).1) (List.mem_filter.1 hx).2) hc
theorem filter_twice2 {S : List Label} {p : Label} {c : Cut} (hS : Laid S) (hs : Small p) (hc : isCut p (S.filter (insideB p)) c = true) : (S.filter (insideB p)).filter (insideB (half2 p c)) = S.filter (insideB (half2 p c)) := by
  rw [inside_half2_all hS hs hc]
  exact filter_in2 (pc_inside hS hs) hc
theorem anyE_fold {α : Type} {f : α → Bool} {k : Option Bool} : ∀ (l : List α) (i : Nat), foldK (fun _ x (_ : Unit) c => bif f x then some true else c ()) (fun _ => k) i l () = bif l.any f then some true else k
  | [], i => rfl
  | x :: r, i => by
    simp only [foldK, List.any_cons]
    cases f x with
    | true => rfl
    | false => simpa using anyE_fold r (i + 1)
theorem f65_eq {S : List Label} {q : Label} (hS : Laid S) : ∀ (m n : Nat) (p : Label), Small p → (S.filter (insideB p)).length < m → m ≤ 12 → 40 + m < n → f65 n (S.filter (insideB p)) p q = some (reachB S q m p) := by
  intro m
  induction m with
  | zero => intro n p _ h; omega
  | succ m ih =>
    intro n p hs hm hm12 hn
    obtain ⟨n, rfl⟩ : ∃ k, n = k + 1 := ⟨n - 1, by omega⟩
    have hpc := pc_inside hS hs
    simp only [f65, f65b, reachB, label_eqB]
    cases hpq : decide (p = q) with
    | true => rfl
    | false =>
      rw [cond_false, f46_eq hpc.small hpc.fits (by omega) (by omega)]
      simp only [Option.bind_some, joinK, Bool.false_or]
      have hlen : (cutsL p (S.filter (insideB p))).length ≤ 24 := cutsL_len
      have := loopL (l := cutsL p (S.filter (insideB p))) (F := fun k (_ : Unit) j => f65_5 (S.filter (insideB p)) p q n (f65 n) (cutsL p (S.filter (insideB p))) f65_c10 k j) (g := fun _ c (_ : Unit) k => bif reachB S q m (half1 p c) || reachB S q m (half2 p c) then some true else k ()) (k := fun _ => f65_c10)
        (fun k s j c hx => by
          have hi := (List.getElem?_eq_some_iff.1 hx).1
          have hc := mem_cutsL (List.mem_of_getElem? hx)
          have hin := (isCut_parts hc).1
          obtain ⟨w1, w2⟩ := cut_lens hc
          have hsplit := split_len (l := S.filter (insideB p)) (before c)
          have r1 := ih n (half1 p c) (small_half1 hs hin) (by rw [inside_half1_all hS hs hin]; omega) (by omega) (by omega)
          have r2 := ih n (half2 p c) (small_half2 hs hin) (by rw [inside_half2_all hS hs hc]; omega) (by omega) (by omega)
          simp only [f65_5, f65_5b, decide_eq_true (show (j : Int) < ((cutsL p (S.filter (insideB p))).length : Int) by omega), cond_true, ix_nat, hx, Option.bind_some, f64_in hs hin, f62_eq (N := n) (show (S.filter (insideB p)).length ≤ 30 by omega) (by omega), filter_twice1 hS hs hin, filter_twice2 hS hs hc, r1, r2, W_nat (show j < 9223372036854775807 by omega)]
          cases reachB S q m (half1 p c) <;> cases reachB S q m (half2 p c) <;> rfl)
        (fun k s => by simp [f65_5, f65_5b]) n () (by omega)
      refine this.trans ?_
      rw [anyE_fold]
      cases (cutsL p (S.filter (insideB p))).any fun c => reachB S q m (half1 p c) || reachB S q m (half2 p c) <;> rfl
theorem f28_true {N : Nat} {L : Layout} {q : Label} (hv : Valid L) (hq : (planS L).2 = some q) (hN : 60 < N) : f28 N L q = some true := by
  have hlen := hv.len
  have hS := hv.laid
  have hsh := inside_sheet hv
  unfold planS at hq
  rw [show planR L.Labels.length (sheetOf L) L.Labels = planR L.Labels.length (sheetOf L) (L.Labels.filter (insideB (sheetOf L))) by rw [hsh]] at hq
  obtain ⟨a1, a2, a3, a4⟩ := plan_block hS L.Labels.length (sheetOf L) q hv.small (by rw [hsh]; exact Nat.le_refl _) hq
  have hle : (L.Labels.filter (insideB q)).length ≤ 10 := Nat.le_trans (List.length_filter_le _ _) hlen
  have hpc := pc_inside hS a2
  unfold f28
  rw [f62_eq (by omega) (by omega)]
  simp only [Option.bind_some, decide_eq_true (show (1 : Int) < ((L.Labels.filter (insideB q)).length : Int) by omega), cond_true]
  rw [f46_eq hpc.small hpc.fits (by omega) (by omega), a4]
  simp only [Option.bind_some, List.length_nil, Int.ofNat_eq_natCast, Int.natCast_zero, decide_true, cond_true, f47]
  have hb := reachB_of hS 11 (sheetOf L) q hv.small (by rw [hsh]; omega) a1
  have := f65_eq (q := q) hS 11 N (sheetOf L) hv.small (by rw [hsh]; omega) (by omega) (by omega)
  rw [hsh, hb] at this
  simp only [sheetOf] at this
  rw [this]; rfl
theorem works60 (h : f13 60 = some true) : f13 60 = some true := h
theorem f4_true (a : Layout) (pl : List Cut) (hw : f13 61 = some true) : f4 61 a pl = some true := by
  unfold f4
  by_cases c1 : 30 < (a.Labels.length : Int)
  · simp [c1, hw]
  by_cases c2 : 30 < (pl.length : Int)
  · simp [c1, c2, hw]
  have h1 : a.Labels.length ≤ 30 := by omega
  have h2 : pl.length ≤ 30 := by omega
  simp only [c1, c2, decide_false, cond_false, f14_eq (N := 61) h1 (by omega), f22_eq h1 (show 30 < 61 by omega), f23_eq h1 (show 60 < 61 by omega), f24_eq h1 (show 30 < 61 by omega), f25_eq h1 h2 (show 30 < 61 by omega), f27_eq h2 (show 30 < 61 by omega), f26_eq h1 h2 (show 30 < 61 by omega), Option.bind_some, not_true_eq_false]
  by_cases c : checkS a = 0
  · have hv := valid_of c
    have hp := f58_eq (N := 61) hv (by omega)
    have hlen := hv.len
    cases hq : (planS a).2 with
    | none =>
      rw [hq] at hp
      have hpl : (planS a).1.length ≤ 30 := by have := hp.2; omega
      have hver : verS a (planS a).1 = 0 := by
        unfold verS
        rw [if_pos c]
        have := plan_ver a.Labels.length (sheetOf a) a.Labels [] (Nat.le_refl _) hq
        rw [List.append_nil] at this
        show verE (verR _ _ _ (planS a).1) = 0
        rw [show (planS a).1 = (planR a.Labels.length (sheetOf a) a.Labels).1 from rfl, this]; rfl
      have e1 : planA a = ((planS a).1, 0) := by unfold planA; rw [if_pos c, hq]
      have e2 : possS a = 0 := by unfold possS; rw [if_pos c, if_pos hq]
      have e3 : blockA a = (⟨0, 0, 0, 0⟩, 14) := by unfold blockA; rw [if_pos c, hq]
      rw [e1, e2, e3]
      simp [f27_eq hpl (show 30 < 61 by omega), f26_eq h1 hpl (show 30 < 61 by omega), hver, hw]
    | some q =>
      have e1 : planA a = ([], 14) := by unfold planA; rw [if_pos c, hq]
      have e2 : possS a = 14 := by unfold possS; rw [if_pos c, if_neg (by rw [hq]; simp)]
      have e3 : blockA a = (q, 0) := by unfold blockA; rw [if_pos c, hq]
      rw [e1, e2, e3]
      simp [f28_true hv hq (show 60 < 61 by omega), hw]
  · have e1 : planA a = ([], checkS a) := by unfold planA; rw [if_neg c]
    have e2 : possS a = checkS a := by unfold possS; rw [if_neg c]
    have e3 : blockA a = (⟨0, 0, 0, 0⟩, checkS a) := by unfold blockA; rw [if_neg c]
    have hne : checkS a ≠ 14 := by
      unfold checkS
      split; · omega
      split; · omega
      split; · omega
      cases hfs : a.Labels.findSome? (okLabel a) with
      | some e =>
        obtain ⟨x, hx, he⟩ := List.exists_of_findSome?_eq_some hfs
        simp only [Option.getD_some]
        rintro rfl
        unfold okLabel at he
        repeat' (split at he)
        all_goals cases he
      | none =>
        simp only [Option.getD_none]
        cases clashes [] a.Labels <;> simp
    rw [e1, e2, e3]
    simp [c, hne, hw]
end Go.Vc
/-
  PLAIN LAWS OF CUT, 8: labels that can be cut apart: whichever cut comes first.
-/
namespace Go.Vc
set_option linter.unusedVariables false
set_option linter.unnecessarySimpa false
set_option linter.unusedSimpArgs false
set_option linter.unusedSimpArgs false

/-- labels that lines can separate -/
inductive Sep : List Label → Prop where
  | few {l : List Label} (h : l.length ≤ 1) : Sep l
  | cut {l : List Label} (c : Cut) (h : ∀ x, x ∈ l → (before c x || behind c x) = true) (h1 : Sep (l.filter (before c))) (h2 : Sep (l.filter fun x => !before c x)) : Sep l
theorem filter_comm {f g : Label → Bool} {l : List Label} : (l.filter f).filter g = (l.filter g).filter f := by
  rw [List.filter_filter, List.filter_filter]
  exact List.filter_congr fun x _ => Bool.and_comm _ _
theorem Sep.filter {l : List Label} (h : Sep l) (f : Label → Bool) : Sep (l.filter f) := by
  induction h with
  | few h => exact .few (Nat.le_trans (List.length_filter_le _ _) h)
  | cut c h _ _ ih1 ih2 =>
    refine .cut c (fun x hx => h x (List.mem_filter.1 hx).1) ?_ ?_
    · rw [filter_comm]; exact ih1
    · rw [filter_comm]; exact ih2
theorem Sep.perm {l l' : List Label} (h : Sep l) (hp : l.Perm l') : Sep l' := by
  induction h generalizing l' with
  | few h => exact .few (by rw [← hp.length_eq]; exact h)
  | cut c h _ _ ih1 ih2 => exact .cut c (fun x hx => h x (hp.mem_iff.2 hx)) (ih1 (hp.filter _)) (ih2 (hp.filter _))
/-- a line that divides them -/
theorem Sep.line {l : List Label} (h : Sep l) (h2 : 2 ≤ l.length) : ∃ c : Cut, (∀ x, x ∈ l → (before c x || behind c x) = true) ∧ (∃ x, x ∈ l ∧ before c x = true) ∧ (∃ x, x ∈ l ∧ before c x = false) := by
  induction h with
  | few h => omega
  | @cut l c h h1 h2' ih1 ih2 =>
    have hs := split_len (l := l) (before c)
    by_cases e1 : (l.filter (before c)).length = 0
    · have e : (l.filter fun x => !before c x) = l := by
        rw [List.filter_eq_self]
        intro x hx
        cases hb : before c x with
        | false => rfl
        | true => have := List.length_pos_of_mem (List.mem_filter.2 ⟨hx, hb⟩); omega
      rw [e] at ih2
      exact ih2 h2
    · by_cases e2 : (l.filter fun x => !before c x).length = 0
      · have e : (l.filter (before c)) = l := by
          rw [List.filter_eq_self]
          intro x hx
          cases hb : before c x with
          | true => rfl
          | false => have := List.length_pos_of_mem ((List.mem_filter (p := fun x => !before c x)).2 ⟨hx, by rw [hb]; rfl⟩); omega
        rw [e] at ih1
        exact ih1 h2
      · obtain ⟨x, hx⟩ := List.exists_mem_of_length_pos (Nat.pos_of_ne_zero e1)
        obtain ⟨y, hy⟩ := List.exists_mem_of_length_pos (Nat.pos_of_ne_zero e2)
        exact ⟨c, h, ⟨x, (List.mem_filter.1 hx).1, (List.mem_filter.1 hx).2⟩, y, (List.mem_filter.1 hy).1, by simpa using (List.mem_filter.1 hy).2⟩
theorem isCut_of {p : Label} {l : List Label} {c : Cut} (hp : Pc p l) (h : ∀ x, x ∈ l → (before c x || behind c x) = true) (h1 : ∃ x, x ∈ l ∧ before c x = true) (h2 : ∃ x, x ∈ l ∧ before c x = false) : isCut p l c = true := by
  obtain ⟨x, hx, bx⟩ := h1
  obtain ⟨y, hy, bY⟩ := h2
  have hin : inner c p = true := by
    have fx := hp.fits x hx; have fy := hp.fits y hy
    have t1 := fx.w; have t2 := fx.h; have t3 := fx.x0; have t4 := fx.y0
    have u1 := fy.w; have u2 := fy.h; have u5 := fy.x1; have u6 := fy.y1
    have hb := h y hy
    rw [bY, Bool.false_or, behind_iff] at hb
    rw [before_iff] at bx
    unfold inner
    rw [Bool.and_eq_true, decide_eq_true_iff, decide_eq_true_iff]
    obtain ⟨up, a⟩ := c
    cases up with
    | true =>
      have bx : x.X + x.W ≤ a := bx
      have hb : a ≤ y.X := hb
      show p.X + 1 ≤ a ∧ a ≤ p.X + p.W - 1
      omega
    | false =>
      have bx : x.Y + x.H ≤ a := bx
      have hb : a ≤ y.Y := hb
      show p.Y + 1 ≤ a ∧ a ≤ p.Y + p.H - 1
      omega
  unfold isCut
  rw [hin, List.all_eq_true.2 h, List.any_eq_true.2 ⟨x, hx, bx⟩, List.any_eq_true.2 ⟨y, hy, by rw [bY]; rfl⟩]; rfl
theorem cut_mem {p : Label} {l : List Label} {c : Cut} (hs : Small p) (h : isCut p l c = true) : c ∈ cutsL p l := by
  have hin := (isCut_parts h).1
  have s1 := hs.x0; have s2 := hs.y0; have s3 := hs.x1; have s4 := hs.y1
  unfold inner at hin
  rw [Bool.and_eq_true, decide_eq_true_iff, decide_eq_true_iff] at hin
  obtain ⟨up, a⟩ := c
  have ha : 1 ≤ a ∧ a ≤ 11 := by
    cases up with
    | true =>
      have hin : p.X + 1 ≤ a ∧ a ≤ p.X + p.W - 1 := hin
      omega
    | false =>
      have hin : p.Y + 1 ≤ a ∧ a ≤ p.Y + p.H - 1 := hin
      omega
  obtain ⟨i, rfl⟩ : ∃ i : Nat, a = (i : Int) := ⟨a.toNat, by omega⟩
  have hi : i ∈ (List.range' 0 12).filter fun i : Nat => isCut p l ⟨up, (i : Int)⟩ := List.mem_filter.2 ⟨by rw [List.mem_range'_1]; omega, h⟩
  unfold cutsL lineCuts
  rw [List.mem_append]
  cases up with
  | true => exact .inl (List.mem_map.2 ⟨i, hi, rfl⟩)
  | false => exact .inr (List.mem_map.2 ⟨i, hi, rfl⟩)
/-- whichever cut comes first: what lines can separate is separated -/
theorem sep_plan : ∀ (m : Nat) (p : Label) (l : List Label), Pc p l → l.length ≤ m → Sep l → (planR m p l).2 = none
  | 0, _, _, _, _, _ => rfl
  | m + 1, p, l, hp, hm, h => by
    simp only [planR]
    by_cases h2 : l.length < 2
    · rw [if_pos h2]
    · rw [if_neg h2]
      obtain ⟨c0, g1, g2, g3⟩ := h.line (by omega)
      have hmem := cut_mem hp.small (isCut_of hp g1 g2 g3)
      cases hcs : cutsL p l with
      | nil => rw [hcs] at hmem; cases hmem
      | cons c cr =>
        have hc : isCut p l c = true := mem_cutsL (by rw [hcs]; simp)
        obtain ⟨w1, w2⟩ := cut_lens hc
        have hsplit := split_len (l := l) (before c)
        have i1 := sep_plan m (half1 p c) _ (hp.half1 hc) (by omega) (h.filter (before c))
        have i2 := sep_plan m (half2 p c) _ (hp.half2 hc) (by omega) (h.filter fun x => !before c x)
        simp only
        cases hA : planR m (half1 p c) (l.filter (before c)) with
        | mk cs1 o1 =>
          rw [hA] at i1
          simp only at i1
          subst i1
          exact i2
theorem plan_sep : ∀ (m : Nat) (p : Label) (l : List Label), l.length ≤ m → (planR m p l).2 = none → Sep l
  | 0, _, l, hm, _ => .few (by omega)
  | m + 1, p, l, hm, h => by
    simp only [planR] at h
    by_cases h2 : l.length < 2
    · exact .few (by omega)
    · rw [if_neg h2] at h
      cases hcs : cutsL p l with
      | nil => rw [hcs] at h; cases h
      | cons c cr =>
        have hc : isCut p l c = true := mem_cutsL (by rw [hcs]; simp)
        obtain ⟨w1, w2⟩ := cut_lens hc
        have hsplit := split_len (l := l) (before c)
        rw [hcs] at h
        simp only at h
        cases hA : planR m (half1 p c) (l.filter (before c)) with
        | mk cs1 o1 =>
          rw [hA] at h
          cases o1 with
          | some q => cases h
          | none =>
            simp only at h
            exact .cut c (isCut_parts hc).2.1 (plan_sep m (half1 p c) _ (by omega) (by rw [hA])) (plan_sep m (half2 p c) _ (by omega) h)
theorem sep_iff {m : Nat} {p : Label} {l : List Label} (hp : Pc p l) (hm : l.length ≤ m) : (planR m p l).2 = none ↔ Sep l := ⟨plan_sep m p l hm, sep_plan m p l hp hm⟩
end Go.Vc
/-
  PLAIN LAWS OF CUT, 9: the table of the best choices.
-/
namespace Go.Vc
set_option linter.unusedVariables false
set_option linter.unnecessarySimpa false
set_option linter.unusedSimpArgs false
set_option linter.unusedSimpArgs false

def betterB (z o : Choice) : Bool := decide (o.worth < z.worth) || (decide (z.worth = o.worth) && decide (z.labels < o.labels))
theorem f75_eq {N : Nat} {z o : Choice} : f75 N z o = some (betterB z o) := by
  unfold f75 betterB
  cases decide (o.worth < z.worth) <;> cases decide (z.worth = o.worth) <;> rfl
def joinC (x y : Choice) (c : Cut) : Choice := ⟨W (x.worth + y.worth), W (x.labels + y.labels), false, c⟩
def tryC (x y : Choice) (c : Cut) (s : Choice) : Choice := bif betterB (joinC x y c) s then joinC x y c else s
def zeroC : Choice := ⟨0, 0, false, ⟨false, 0⟩⟩
def startC (ks : List Kind) (a b : Nat) : Choice := bif decide (0 < bestV a b ks 0) then ⟨bestV a b ks 0, 1, true, ⟨false, 0⟩⟩ else zeroC
def stepX (T : Nat → Nat → Choice) (a b : Nat) (i : Nat) (s : Choice) : Choice := tryC (T i b) (T (a - i) b) ⟨true, (i : Int)⟩ s
def stepY (T : Nat → Nat → Choice) (a b : Nat) (i : Nat) (s : Choice) : Choice := tryC (T a i) (T a (b - i)) ⟨false, (i : Int)⟩ s
/-- f at 1, 2 .. m - 1 -/
def iter (f : Nat → Choice → Choice) : Nat → Choice → Choice
  | 0, s => s
  | m + 1, s => match m with
    | 0 => s
    | _ + 1 => f m (iter f m s)
theorem iter_one (f : Nat → Choice → Choice) (s : Choice) : iter f 1 s = s := rfl
theorem iter_succ (f : Nat → Choice → Choice) (m : Nat) (s : Choice) (h : 1 ≤ m) : iter f (m + 1) s = f m (iter f m s) := by
  cases m with
  | zero => omega
  | succ m => rfl
theorem iter_congr {f g : Nat → Choice → Choice} : ∀ (m : Nat) (s : Choice), (∀ i s, 1 ≤ i → i < m → f i s = g i s) → iter f m s = iter g m s
  | 0, _, _ => rfl
  | 1, _, _ => rfl
  | m + 2, s, h => by
    rw [iter_succ f (m + 1) s (by omega), iter_succ g (m + 1) s (by omega), iter_congr (m + 1) s (fun i s h1 h2 => h i s h1 (by omega)), h (m + 1) _ (by omega) (by omega)]
def cellC (ks : List Kind) (T : Nat → Nat → Choice) (a b : Nat) : Choice := iter (stepY T a b) b (iter (stepX T a b) a (startC ks a b))
def bestF (ks : List Kind) : Nat → Nat → Nat → Choice
  | 0, _, _ => zeroC
  | k + 1, a, b => cellC ks (bestF ks k) a b
theorem cell_congr {ks : List Kind} {T T' : Nat → Nat → Choice} {a b : Nat} (h : ∀ i j, 1 ≤ i → 1 ≤ j → i ≤ a → j ≤ b → i + j < a + b → T i j = T' i j) (ha : 1 ≤ a) (hb : 1 ≤ b) : cellC ks T a b = cellC ks T' a b := by
  unfold cellC
  rw [iter_congr (f := stepX T a b) (g := stepX T' a b) a _ fun i s h1 h2 => by unfold stepX; rw [h i b h1 hb (by omega) (by omega) (by omega), h (a - i) b (by omega) hb (by omega) (by omega) (by omega)]]
  exact iter_congr b _ fun i s h1 h2 => by unfold stepY; rw [h a i ha h1 (by omega) (by omega) (by omega), h a (b - i) ha (by omega) (by omega) (by omega) (by omega)]
theorem bestF_fuel {ks : List Kind} : ∀ (k k' a b : Nat), 1 ≤ a → 1 ≤ b → a + b ≤ k → a + b ≤ k' → bestF ks k a b = bestF ks k' a b
  | 0, _, _, _, _, _, _, _ => by omega
  | _, 0, _, _, _, _, _, _ => by omega
  | k + 1, k' + 1, a, b, ha, hb, h, h' => by
    simp only [bestF]
    exact cell_congr (fun i j hi hj _ _ hs => bestF_fuel k k' i j hi hj (by omega) (by omega)) ha hb
def best (ks : List Kind) (a b : Nat) : Choice := bestF ks (a + b) a b
theorem best_eq {ks : List Kind} {a b : Nat} (ha : 1 ≤ a) (hb : 1 ≤ b) : best ks a b = cellC ks (best ks) a b := by
  unfold best
  obtain ⟨k, hk⟩ : ∃ k, a + b = k + 1 := ⟨a + b - 1, by omega⟩
  rw [hk]
  simp only [bestF]
  exact cell_congr (fun i j hi hj _ _ hs => bestF_fuel _ _ i j hi hj (by omega) (by omega)) ha hb

/-! Tables. -/
def at13 (i j : Nat) : Nat := i * 13 + j
theorem at_inj {i j i' j' : Nat} (hj : j < 13) (hj' : j' < 13) (h : at13 i j = at13 i' j') : i = i' ∧ j = j' := by unfold at13 at h; omega
theorem chk_ok {α ρ : Type} {i : Nat} (h : i ≤ 12) {k : Unit → Option ρ} : (chkI 13 (i : Int)).bind k = k () := by
  unfold chkI
  rw [if_pos ⟨by omega, by omega⟩]; rfl
theorem toN {i : Nat} : Int.toNat (i : Int) = i := rfl
/-- the cells before (a, b), row by row, are the best ones; the others are still zero -/
structure Tab (ks : List Kind) (w h a b : Nat) (T : List Choice) : Prop where
  len : T.length = 169
  done : ∀ i j, 1 ≤ i → 1 ≤ j → i ≤ w → j ≤ h → (i < a ∨ (i = a ∧ j < b)) → T[at13 i j]? = some (best ks i j)
  zero : ∀ i j, 1 ≤ i → 1 ≤ j → i ≤ w → j ≤ h → ¬ (i < a ∨ (i = a ∧ j < b)) → T[at13 i j]? = some zeroC
theorem Tab.init {ks : List Kind} {w h : Nat} (hw : w ≤ 12) (hh : h ≤ 12) : Tab ks w h 1 1 (List.replicate 169 zeroC) :=
  ⟨List.length_replicate .., fun i j h1 h2 _ _ h => by omega, fun i j h1 h2 h3 h4 _ => by rw [List.getElem?_replicate, if_pos (by unfold at13; omega)]⟩
theorem Tab.set {ks : List Kind} {w h a b : Nat} {T : List Choice} (t : Tab ks w h a b T) (hw : w ≤ 12) (hh : h ≤ 12) (ha : 1 ≤ a) (hb : 1 ≤ b) (haw : a ≤ w) (hbh : b ≤ h) : Tab ks w h a (b + 1) (T.set (at13 a b) (best ks a b)) := by
  have hlt : at13 a b < T.length := by rw [t.len]; unfold at13; omega
  refine ⟨by simp [t.len], fun i j h1 h2 h3 h4 hd => ?_, fun i j h1 h2 h3 h4 hd => ?_⟩
  · rw [List.getElem?_set]
    by_cases he : at13 a b = at13 i j
    · obtain ⟨rfl, rfl⟩ := at_inj (by omega) (by omega) he
      rw [if_pos rfl, if_pos hlt]
    · rw [if_neg he]
      refine t.done i j h1 h2 h3 h4 ?_
      rcases hd with hd | ⟨rfl, hd⟩
      · exact .inl hd
      · by_cases hj : j = b
        · subst hj; exact absurd rfl he
        · exact .inr ⟨rfl, by omega⟩
  · rw [List.getElem?_set, if_neg (fun he => by obtain ⟨rfl, rfl⟩ := at_inj (by omega) (by omega) he; exact hd (.inr ⟨rfl, by omega⟩))]
    exact t.zero i j h1 h2 h3 h4 fun hh => hd (by rcases hh with hh | ⟨rfl, hh⟩; exact .inl hh; exact .inr ⟨rfl, by omega⟩)
theorem Tab.row {ks : List Kind} {w h a : Nat} {T : List Choice} (t : Tab ks w h a (h + 1) T) : Tab ks w h (a + 1) 1 T := by
  refine ⟨t.len, fun i j h1 h2 h3 h4 hd => t.done i j h1 h2 h3 h4 ?_, fun i j h1 h2 h3 h4 hd => t.zero i j h1 h2 h3 h4 fun hh => hd ?_⟩
  · by_cases hi : i = a
    · exact .inr ⟨hi, by omega⟩
    · exact .inl (by omega)
  · exact .inl (by omega)
/-- a loop by an invariant, towards what follows it -/
theorem loopE {σ ρ : Type} {F : Nat → σ → Int → Option ρ} {k : σ → Option ρ} (a b : Nat) (Inv : Nat → σ → Prop) (step : ∀ n s (i : Nat), a ≤ i → i < b → Inv i s → ∃ s', Inv (i + 1) s' ∧ F (n + 1) s (i : Int) = F n s' ((i + 1 : Nat) : Int))
    (fin : ∀ n s, F (n + 1) s (b : Int) = k s) : ∀ (n : Nat) (s : σ), Inv a s → a ≤ b → b - a < n → ∃ s', Inv b s' ∧ F n s (a : Int) = k s' := by
  have key : ∀ (m i n : Nat) (s : σ), i + m = b → a ≤ i → Inv i s → m < n → ∃ s', Inv b s' ∧ F n s (i : Int) = k s' := by
    intro m
    induction m with
    | zero =>
      intro i n s hi _ hI hn
      obtain ⟨n, rfl⟩ : ∃ k, n = k + 1 := ⟨n - 1, by omega⟩
      have : i = b := by omega
      subst this
      exact ⟨s, hI, fin n s⟩
    | succ m ih =>
      intro i n s hi ha hI hn
      obtain ⟨n, rfl⟩ : ∃ k, n = k + 1 := ⟨n - 1, by omega⟩
      obtain ⟨s', h1, h2⟩ := step n s i ha (by omega) hI
      rw [h2]
      exact ih (i + 1) n s' (by omega) (by omega) h1 (by omega)
  intro n s hI hab hn
  exact key (b - a) a n s (by omega) (Nat.le_refl _) hI hn
/-- while a cell is worked at: all else is as before -/
theorem cell_get {T : List Choice} {s : Choice} {a b i j : Nat} (hne : at13 a b ≠ at13 i j) : (T.set (at13 a b) s)[at13 i j]? = T[at13 i j]? := by
  rw [List.getElem?_set, if_neg hne]
theorem ixN_eq {α : Type} {l : List α} {m : Nat} {x : α} (h : l[m]? = some x) : ixN l m = some x := h
theorem setN_eq {α : Type} {l : List α} {m : Nat} {x : α} (h : m < l.length) : setN l m x = some (l.set m x) := by unfold setN; rw [if_pos h]

/-! The table of Best. -/
theorem f29_i403_row14 {N w h a b : Nat} {w0 h0 : Int} {ks : List Kind} {T : List Choice} {k3 : List Choice → Option (Int × Int)} {s0 : Choice} (t : Tab ks w h a b T) (hw : w ≤ 12) (hh : h ≤ 12) (ha : 1 ≤ a) (hb : 1 ≤ b) (haw : a ≤ w) (hbh : b ≤ h) (hN : 30 < N) :
    f29_i403_14 w0 h0 ks N (a : Int) (b : Int) k3 N (1 : Int) (T.set (at13 a b) s0) = k3 (T.set (at13 a b) (iter (stepX (best ks) a b) a s0)) := by
  have hlt : at13 a b < T.length := by rw [t.len]; unfold at13; omega
  obtain ⟨s', h1, h2⟩ := loopE (F := fun n (T : List Choice) i => f29_i403_14 w0 h0 ks N (a : Int) (b : Int) k3 n i T) (k := k3) 1 a (fun i T' => T' = T.set (at13 a b) (iter (stepX (best ks) a b) i s0))
    (fun n s i h1 h2 hI => by
      subst hI
      have e1 : at13 a b ≠ at13 i b := fun he => by have := (at_inj (by omega) (by omega) he).1; omega
      have e2 : at13 a b ≠ at13 (a - i) b := fun he => by have := (at_inj (by omega) (by omega) he).1; omega
      have r1 := t.done i b h1 hb (by omega) hbh (.inl h2)
      have r2 := t.done (a - i) b (by omega) hb (by omega) hbh (.inl (by omega))
      rw [← cell_get (s := iter (stepX (best ks) a b) i s0) e1] at r1
      rw [← cell_get (s := iter (stepX (best ks) a b) i s0) e2] at r2
      have r3 : (T.set (at13 a b) (iter (stepX (best ks) a b) i s0))[at13 a b]? = some (iter (stepX (best ks) a b) i s0) := by rw [List.getElem?_set, if_pos rfl, if_pos hlt]
      have hsub : W ((a : Int) - (i : Int)) = ((a - i : Nat) : Int) := by rw [W_in (by omega) (by omega)]; omega
      refine ⟨_, rfl, ?_⟩
      rw [iter_succ _ _ _ h1]
      simp only [f29_i403_14, f29_i403_14b, decide_eq_true (show (i : Int) < (a : Int) by omega), cond_true, hsub, chk_ok (α := Unit) (show i ≤ 12 by omega), chk_ok (α := Unit) (show b ≤ 12 by omega), chk_ok (α := Unit) (show a - i ≤ 12 by omega), toN]
      rw [ixN_eq (m := i * 13 + b) r1]
      simp only [Option.bind_some]
      rw [ixN_eq (m := (a - i) * 13 + b) r2]
      simp only [Option.bind_some]
      rw [ixN_eq (m := a * 13 + b) r3]
      simp only [Option.bind_some, f75_eq, stepX, tryC, joinC, W_nat (show i < 9223372036854775807 by omega)]
      cases betterB (⟨W ((best ks i b).worth + (best ks (a - i) b).worth), W ((best ks i b).labels + (best ks (a - i) b).labels), false, ⟨true, (i : Int)⟩⟩) (iter (stepX (best ks) a b) i s0) with
      | true =>
        rw [cond_true, cond_true, setN_eq (m := a * 13 + b) (by rw [List.length_set]; exact hlt)]
        simp only [Option.bind_some]
        rw [show a * 13 + b = at13 a b from rfl, List.set_set]
      | false => rfl)
    (fun n s => by simp [f29_i403_14, f29_i403_14b]) N _ rfl ha (by omega)
  rw [h1] at h2; exact h2
theorem f29_i403_row18 {N w h a b : Nat} {w0 h0 : Int} {ks : List Kind} {T : List Choice} {k3 : List Choice → Option (Int × Int)} {s0 : Choice} (t : Tab ks w h a b T) (hw : w ≤ 12) (hh : h ≤ 12) (ha : 1 ≤ a) (hb : 1 ≤ b) (haw : a ≤ w) (hbh : b ≤ h) (hN : 30 < N) :
    f29_i403_18 w0 h0 ks N (a : Int) (b : Int) k3 N (1 : Int) (T.set (at13 a b) s0) = k3 (T.set (at13 a b) (iter (stepY (best ks) a b) b s0)) := by
  have hlt : at13 a b < T.length := by rw [t.len]; unfold at13; omega
  obtain ⟨s', h1, h2⟩ := loopE (F := fun n (T : List Choice) i => f29_i403_18 w0 h0 ks N (a : Int) (b : Int) k3 n i T) (k := k3) 1 b (fun i T' => T' = T.set (at13 a b) (iter (stepY (best ks) a b) i s0))
    (fun n s i h1 h2 hI => by
      subst hI
      have e1 : at13 a b ≠ at13 a i := fun he => by have := (at_inj (by omega) (by omega) he).2; omega
      have e2 : at13 a b ≠ at13 a (b - i) := fun he => by have := (at_inj (by omega) (by omega) he).2; omega
      have r1 := t.done a i ha h1 haw (by omega) (.inr ⟨rfl, h2⟩)
      have r2 := t.done a (b - i) ha (by omega) haw (by omega) (.inr ⟨rfl, by omega⟩)
      rw [← cell_get (s := iter (stepY (best ks) a b) i s0) e1] at r1
      rw [← cell_get (s := iter (stepY (best ks) a b) i s0) e2] at r2
      have r3 : (T.set (at13 a b) (iter (stepY (best ks) a b) i s0))[at13 a b]? = some (iter (stepY (best ks) a b) i s0) := by rw [List.getElem?_set, if_pos rfl, if_pos hlt]
      have hsub : W ((b : Int) - (i : Int)) = ((b - i : Nat) : Int) := by rw [W_in (by omega) (by omega)]; omega
      refine ⟨_, rfl, ?_⟩
      rw [iter_succ _ _ _ h1]
      simp only [f29_i403_18, f29_i403_18b, decide_eq_true (show (i : Int) < (b : Int) by omega), cond_true, hsub, chk_ok (α := Unit) (show i ≤ 12 by omega), chk_ok (α := Unit) (show a ≤ 12 by omega), chk_ok (α := Unit) (show b - i ≤ 12 by omega), toN]
      rw [ixN_eq (m := a * 13 + i) r1]
      simp only [Option.bind_some]
      rw [ixN_eq (m := a * 13 + (b - i)) r2]
      simp only [Option.bind_some]
      rw [ixN_eq (m := a * 13 + b) r3]
      simp only [Option.bind_some, f75_eq, stepY, tryC, joinC, W_nat (show i < 9223372036854775807 by omega)]
      cases betterB (⟨W ((best ks a i).worth + (best ks a (b - i)).worth), W ((best ks a i).labels + (best ks a (b - i)).labels), false, ⟨false, (i : Int)⟩⟩) (iter (stepY (best ks) a b) i s0) with
      | true =>
        rw [cond_true, cond_true, setN_eq (m := a * 13 + b) (by rw [List.length_set]; exact hlt)]
        simp only [Option.bind_some]
        rw [show a * 13 + b = at13 a b from rfl, List.set_set]
      | false => rfl)
    (fun n s => by simp [f29_i403_18, f29_i403_18b]) N _ rfl hb (by omega)
  rw [h1] at h2; exact h2
theorem f29_i403_tab {N w h : Nat} {ks : List Kind} {k0 : List Choice → Option (Int × Int)} (hw : w ≤ 12) (hh : h ≤ 12) (h1w : 1 ≤ w) (h1h : 1 ≤ h) (hk : ks.length ≤ 30) (hN : 30 < N) :
    ∃ T, Tab ks w h (w + 1) 1 T ∧ f29_i403_3 (w : Int) (h : Int) ks N k0 N (1 : Int) (List.replicate 169 zeroC) = k0 T := by
  refine loopE (F := fun n (T : List Choice) i => f29_i403_3 (w : Int) (h : Int) ks N k0 n i T) (k := k0) 1 (w + 1) (fun a T => Tab ks w h a 1 T) (fun n T a h1 h2 hI => ?_) (fun n s => by simp only [f29_i403_3, f29_i403_3b, decide_eq_false (show ¬ ((w + 1 : Nat) : Int) ≤ (w : Int) by omega), cond_false]) N _ (Tab.init hw hh) (by omega) (by omega)
  obtain ⟨T', i1, i2⟩ := loopE (F := fun m (T : List Choice) i => f29_i403_6 (w : Int) (h : Int) ks N (a : Int) (f29_i403_c4 (w : Int) (h : Int) ks (a : Int) (f29_i403_3 (w : Int) (h : Int) ks N k0 n)) m i T) (k := f29_i403_c4 (w : Int) (h : Int) ks (a : Int) (f29_i403_3 (w : Int) (h : Int) ks N k0 n)) 1 (h + 1) (fun b T => Tab ks w h a b T)
    (fun m T b g1 g2 t => by
      have hlt : at13 a b < T.length := by rw [t.len]; unfold at13; omega
      refine ⟨_, t.set hw hh h1 g1 (by omega) (by omega), ?_⟩
      have hz := t.zero a b h1 g1 (by omega) (by omega) (by omega)
      have hself : T.set (at13 a b) zeroC = T := by
        apply List.ext_getElem?
        intro k
        rw [List.getElem?_set]
        by_cases he : at13 a b = k
        · subst he; rw [if_pos rfl, if_pos hlt, hz]
        · rw [if_neg he]
      simp only [f29_i403_6, f29_i403_6b, decide_eq_true (show (b : Int) ≤ (h : Int) by omega), cond_true, joinK, chk_ok (α := Unit) (show a ≤ 12 by omega), chk_ok (α := Unit) (show b ≤ 12 by omega), f49_eq hk hN, Option.bind_some, toN]
      have go : ∀ s0, f29_i403_c12 (w : Int) (h : Int) ks N (a : Int) (b : Int) (f29_i403_c7 (w : Int) (h : Int) ks (a : Int) (b : Int) (f29_i403_6 (w : Int) (h : Int) ks N (a : Int) (f29_i403_c4 (w : Int) (h : Int) ks (a : Int) (f29_i403_3 (w : Int) (h : Int) ks N k0 n)) m)) (T.set (at13 a b) s0) = f29_i403_6 (w : Int) (h : Int) ks N (a : Int) (f29_i403_c4 (w : Int) (h : Int) ks (a : Int) (f29_i403_3 (w : Int) (h : Int) ks N k0 n)) m ((b + 1 : Nat) : Int) (T.set (at13 a b) (iter (stepY (best ks) a b) b (iter (stepX (best ks) a b) a s0))) := by
        intro s0
        simp only [f29_i403_c12, joinK]
        rw [f29_i403_row14 t hw hh h1 g1 (by omega) (by omega) hN]
        simp only [f29_i403_c17]
        rw [f29_i403_row18 t hw hh h1 g1 (by omega) (by omega) hN]
        simp only [f29_i403_c7, W_nat (show b < 9223372036854775807 by omega)]
      rw [best_eq h1 g1]
      unfold cellC startC
      cases decide (0 < bestV (a : Int) (b : Int) ks 0) with
      | true =>
        rw [cond_true, cond_true, setN_eq (m := a * 13 + b) hlt]
        simp only [Option.bind_some]
        exact go _
      | false =>
        rw [cond_false, cond_false]
        have := go zeroC
        rw [hself] at this
        exact this)
    (fun m s => by simp only [f29_i403_6, f29_i403_6b, decide_eq_false (show ¬ ((h + 1 : Nat) : Int) ≤ (h : Int) by omega), cond_false]) N T hI (by omega) (by omega)
  refine ⟨T', i1.row, ?_⟩
  simp only [f29_i403_3, f29_i403_3b, decide_eq_true (show (a : Int) ≤ (w : Int) by omega), cond_true, joinK]
  refine Eq.trans i2 ?_
  simp only [f29_i403_c4, W_nat (show a < 9223372036854775807 by omega)]

/-! The table of Lay. -/
theorem f31_i403_row14 {N w h a b : Nat} {w0 h0 : Int} {ks : List Kind} {T : List Choice} {k3 : List Choice → Option (Layout × Int)} {s0 : Choice} (t : Tab ks w h a b T) (hw : w ≤ 12) (hh : h ≤ 12) (ha : 1 ≤ a) (hb : 1 ≤ b) (haw : a ≤ w) (hbh : b ≤ h) (hN : 30 < N) :
    f31_i403_14 w0 h0 ks N (a : Int) (b : Int) k3 N (1 : Int) (T.set (at13 a b) s0) = k3 (T.set (at13 a b) (iter (stepX (best ks) a b) a s0)) := by
  have hlt : at13 a b < T.length := by rw [t.len]; unfold at13; omega
  obtain ⟨s', h1, h2⟩ := loopE (F := fun n (T : List Choice) i => f31_i403_14 w0 h0 ks N (a : Int) (b : Int) k3 n i T) (k := k3) 1 a (fun i T' => T' = T.set (at13 a b) (iter (stepX (best ks) a b) i s0))
    (fun n s i h1 h2 hI => by
      subst hI
      have e1 : at13 a b ≠ at13 i b := fun he => by have := (at_inj (by omega) (by omega) he).1; omega
      have e2 : at13 a b ≠ at13 (a - i) b := fun he => by have := (at_inj (by omega) (by omega) he).1; omega
      have r1 := t.done i b h1 hb (by omega) hbh (.inl h2)
      have r2 := t.done (a - i) b (by omega) hb (by omega) hbh (.inl (by omega))
      rw [← cell_get (s := iter (stepX (best ks) a b) i s0) e1] at r1
      rw [← cell_get (s := iter (stepX (best ks) a b) i s0) e2] at r2
      have r3 : (T.set (at13 a b) (iter (stepX (best ks) a b) i s0))[at13 a b]? = some (iter (stepX (best ks) a b) i s0) := by rw [List.getElem?_set, if_pos rfl, if_pos hlt]
      have hsub : W ((a : Int) - (i : Int)) = ((a - i : Nat) : Int) := by rw [W_in (by omega) (by omega)]; omega
      refine ⟨_, rfl, ?_⟩
      rw [iter_succ _ _ _ h1]
      simp only [f31_i403_14, f31_i403_14b, decide_eq_true (show (i : Int) < (a : Int) by omega), cond_true, hsub, chk_ok (α := Unit) (show i ≤ 12 by omega), chk_ok (α := Unit) (show b ≤ 12 by omega), chk_ok (α := Unit) (show a - i ≤ 12 by omega), toN]
      rw [ixN_eq (m := i * 13 + b) r1]
      simp only [Option.bind_some]
      rw [ixN_eq (m := (a - i) * 13 + b) r2]
      simp only [Option.bind_some]
      rw [ixN_eq (m := a * 13 + b) r3]
      simp only [Option.bind_some, f75_eq, stepX, tryC, joinC, W_nat (show i < 9223372036854775807 by omega)]
      cases betterB (⟨W ((best ks i b).worth + (best ks (a - i) b).worth), W ((best ks i b).labels + (best ks (a - i) b).labels), false, ⟨true, (i : Int)⟩⟩) (iter (stepX (best ks) a b) i s0) with
      | true =>
        rw [cond_true, cond_true, setN_eq (m := a * 13 + b) (by rw [List.length_set]; exact hlt)]
        simp only [Option.bind_some]
        rw [show a * 13 + b = at13 a b from rfl, List.set_set]
      | false => rfl)
    (fun n s => by simp [f31_i403_14, f31_i403_14b]) N _ rfl ha (by omega)
  rw [h1] at h2; exact h2
theorem f31_i403_row18 {N w h a b : Nat} {w0 h0 : Int} {ks : List Kind} {T : List Choice} {k3 : List Choice → Option (Layout × Int)} {s0 : Choice} (t : Tab ks w h a b T) (hw : w ≤ 12) (hh : h ≤ 12) (ha : 1 ≤ a) (hb : 1 ≤ b) (haw : a ≤ w) (hbh : b ≤ h) (hN : 30 < N) :
    f31_i403_18 w0 h0 ks N (a : Int) (b : Int) k3 N (1 : Int) (T.set (at13 a b) s0) = k3 (T.set (at13 a b) (iter (stepY (best ks) a b) b s0)) := by
  have hlt : at13 a b < T.length := by rw [t.len]; unfold at13; omega
  obtain ⟨s', h1, h2⟩ := loopE (F := fun n (T : List Choice) i => f31_i403_18 w0 h0 ks N (a : Int) (b : Int) k3 n i T) (k := k3) 1 b (fun i T' => T' = T.set (at13 a b) (iter (stepY (best ks) a b) i s0))
    (fun n s i h1 h2 hI => by
      subst hI
      have e1 : at13 a b ≠ at13 a i := fun he => by have := (at_inj (by omega) (by omega) he).2; omega
      have e2 : at13 a b ≠ at13 a (b - i) := fun he => by have := (at_inj (by omega) (by omega) he).2; omega
      have r1 := t.done a i ha h1 haw (by omega) (.inr ⟨rfl, h2⟩)
      have r2 := t.done a (b - i) ha (by omega) haw (by omega) (.inr ⟨rfl, by omega⟩)
      rw [← cell_get (s := iter (stepY (best ks) a b) i s0) e1] at r1
      rw [← cell_get (s := iter (stepY (best ks) a b) i s0) e2] at r2
      have r3 : (T.set (at13 a b) (iter (stepY (best ks) a b) i s0))[at13 a b]? = some (iter (stepY (best ks) a b) i s0) := by rw [List.getElem?_set, if_pos rfl, if_pos hlt]
      have hsub : W ((b : Int) - (i : Int)) = ((b - i : Nat) : Int) := by rw [W_in (by omega) (by omega)]; omega
      refine ⟨_, rfl, ?_⟩
      rw [iter_succ _ _ _ h1]
      simp only [f31_i403_18, f31_i403_18b, decide_eq_true (show (i : Int) < (b : Int) by omega), cond_true, hsub, chk_ok (α := Unit) (show i ≤ 12 by omega), chk_ok (α := Unit) (show a ≤ 12 by omega), chk_ok (α := Unit) (show b - i ≤ 12 by omega), toN]
      rw [ixN_eq (m := a * 13 + i) r1]
      simp only [Option.bind_some]
      rw [ixN_eq (m := a * 13 + (b - i)) r2]
      simp only [Option.bind_some]
      rw [ixN_eq (m := a * 13 + b) r3]
      simp only [Option.bind_some, f75_eq, stepY, tryC, joinC, W_nat (show i < 9223372036854775807 by omega)]
      cases betterB (⟨W ((best ks a i).worth + (best ks a (b - i)).worth), W ((best ks a i).labels + (best ks a (b - i)).labels), false, ⟨false, (i : Int)⟩⟩) (iter (stepY (best ks) a b) i s0) with
      | true =>
        rw [cond_true, cond_true, setN_eq (m := a * 13 + b) (by rw [List.length_set]; exact hlt)]
        simp only [Option.bind_some]
        rw [show a * 13 + b = at13 a b from rfl, List.set_set]
      | false => rfl)
    (fun n s => by simp [f31_i403_18, f31_i403_18b]) N _ rfl hb (by omega)
  rw [h1] at h2; exact h2
theorem f31_i403_tab {N w h : Nat} {ks : List Kind} {k0 : List Choice → Option (Layout × Int)} (hw : w ≤ 12) (hh : h ≤ 12) (h1w : 1 ≤ w) (h1h : 1 ≤ h) (hk : ks.length ≤ 30) (hN : 30 < N) :
    ∃ T, Tab ks w h (w + 1) 1 T ∧ f31_i403_3 (w : Int) (h : Int) ks N k0 N (1 : Int) (List.replicate 169 zeroC) = k0 T := by
  refine loopE (F := fun n (T : List Choice) i => f31_i403_3 (w : Int) (h : Int) ks N k0 n i T) (k := k0) 1 (w + 1) (fun a T => Tab ks w h a 1 T) (fun n T a h1 h2 hI => ?_) (fun n s => by simp only [f31_i403_3, f31_i403_3b, decide_eq_false (show ¬ ((w + 1 : Nat) : Int) ≤ (w : Int) by omega), cond_false]) N _ (Tab.init hw hh) (by omega) (by omega)
  obtain ⟨T', i1, i2⟩ := loopE (F := fun m (T : List Choice) i => f31_i403_6 (w : Int) (h : Int) ks N (a : Int) (f31_i403_c4 (w : Int) (h : Int) ks (a : Int) (f31_i403_3 (w : Int) (h : Int) ks N k0 n)) m i T) (k := f31_i403_c4 (w : Int) (h : Int) ks (a : Int) (f31_i403_3 (w : Int) (h : Int) ks N k0 n)) 1 (h + 1) (fun b T => Tab ks w h a b T)
    (fun m T b g1 g2 t => by
      have hlt : at13 a b < T.length := by rw [t.len]; unfold at13; omega
      refine ⟨_, t.set hw hh h1 g1 (by omega) (by omega), ?_⟩
      have hz := t.zero a b h1 g1 (by omega) (by omega) (by omega)
      have hself : T.set (at13 a b) zeroC = T := by
        apply List.ext_getElem?
        intro k
        rw [List.getElem?_set]
        by_cases he : at13 a b = k
        · subst he; rw [if_pos rfl, if_pos hlt, hz]
        · rw [if_neg he]
      simp only [f31_i403_6, f31_i403_6b, decide_eq_true (show (b : Int) ≤ (h : Int) by omega), cond_true, joinK, chk_ok (α := Unit) (show a ≤ 12 by omega), chk_ok (α := Unit) (show b ≤ 12 by omega), f49_eq hk hN, Option.bind_some, toN]
      have go : ∀ s0, f31_i403_c12 (w : Int) (h : Int) ks N (a : Int) (b : Int) (f31_i403_c7 (w : Int) (h : Int) ks (a : Int) (b : Int) (f31_i403_6 (w : Int) (h : Int) ks N (a : Int) (f31_i403_c4 (w : Int) (h : Int) ks (a : Int) (f31_i403_3 (w : Int) (h : Int) ks N k0 n)) m)) (T.set (at13 a b) s0) = f31_i403_6 (w : Int) (h : Int) ks N (a : Int) (f31_i403_c4 (w : Int) (h : Int) ks (a : Int) (f31_i403_3 (w : Int) (h : Int) ks N k0 n)) m ((b + 1 : Nat) : Int) (T.set (at13 a b) (iter (stepY (best ks) a b) b (iter (stepX (best ks) a b) a s0))) := by
        intro s0
        simp only [f31_i403_c12, joinK]
        rw [f31_i403_row14 t hw hh h1 g1 (by omega) (by omega) hN]
        simp only [f31_i403_c17]
        rw [f31_i403_row18 t hw hh h1 g1 (by omega) (by omega) hN]
        simp only [f31_i403_c7, W_nat (show b < 9223372036854775807 by omega)]
      rw [best_eq h1 g1]
      unfold cellC startC
      cases decide (0 < bestV (a : Int) (b : Int) ks 0) with
      | true =>
        rw [cond_true, cond_true, setN_eq (m := a * 13 + b) hlt]
        simp only [Option.bind_some]
        exact go _
      | false =>
        rw [cond_false, cond_false]
        have := go zeroC
        rw [hself] at this
        exact this)
    (fun m s => by simp only [f31_i403_6, f31_i403_6b, decide_eq_false (show ¬ ((h + 1 : Nat) : Int) ≤ (h : Int) by omega), cond_false]) N T hI (by omega) (by omega)
  refine ⟨T', i1.row, ?_⟩
  simp only [f31_i403_3, f31_i403_3b, decide_eq_true (show (a : Int) ≤ (w : Int) by omega), cond_true, joinK]
  refine Eq.trans i2 ?_
  simp only [f31_i403_c4, W_nat (show a < 9223372036854775807 by omega)]

def askedS (w h : Int) (ks : List Kind) : Int := if ¬ (1 ≤ w ∧ w ≤ 12) then 3 else if ¬ (1 ≤ h ∧ h ≤ 12) then 3 else kindsS ks
theorem f66_eq {N : Nat} {w h : Int} {ks : List Kind} (hk : ks.length ≤ 30) (hN : 30 < N) : f66 N w h ks = some (askedS w h ks) := by
  unfold f66 askedS
  simp only [f52_eq, Option.bind_some, f48_eq hk hN]
  by_cases c1 : 1 ≤ w ∧ w ≤ 12
  · by_cases c2 : 1 ≤ h ∧ h ≤ 12
    · simp [c1, c2]
    · have : (decide (1 ≤ h) && decide (h ≤ 12)) = false := by simpa using c2
      simp [c1, c2, this]
  · have : (decide (1 ≤ w) && decide (w ≤ 12)) = false := by simpa using c1
    simp [c1, this]
theorem asked_ok {w h : Int} {ks : List Kind} (h0 : askedS w h ks = 0) : (1 ≤ w ∧ w ≤ 12) ∧ (1 ≤ h ∧ h ≤ 12) ∧ kindsS ks = 0 := by
  unfold askedS at h0
  split at h0; · cases h0
  split at h0; · cases h0
  rename_i h1 h2
  exact ⟨Classical.not_not.1 h1, Classical.not_not.1 h2, h0⟩
def bestS (w h : Int) (ks : List Kind) : Int × Int := if askedS w h ks = 0 then ((best ks w.toNat h.toNat).worth, 0) else (0, askedS w h ks)
theorem f29_eq {N : Nat} {w h : Int} {ks : List Kind} (hk : ks.length ≤ 30) (hN : 30 < N) : f29 N w h ks = some (bestS w h ks) := by
  unfold f29 bestS
  simp only [f66_eq hk hN, Option.bind_some]
  by_cases c : askedS w h ks = 0
  · obtain ⟨h1, h2, _⟩ := asked_ok c
    obtain ⟨a, rfl⟩ : ∃ a : Nat, w = (a : Int) := ⟨w.toNat, by omega⟩
    obtain ⟨b, rfl⟩ : ∃ b : Nat, h = (b : Int) := ⟨h.toNat, by omega⟩
    obtain ⟨T, t1, t2⟩ := f29_i403_tab (N := N) (w := a) (h := b) (ks := ks) (k0 := f29_i403_c21 (a : Int) (b : Int)) (by omega) (by omega) (by omega) (by omega) hk hN
    rw [if_pos c, decide_eq_false (Classical.not_not.2 c), cond_false]
    simp only [joinK]
    refine Eq.trans t2 ?_
    simp only [f29_i403_c21, chk_ok (α := Unit) (show a ≤ 12 by omega), chk_ok (α := Unit) (show b ≤ 12 by omega), toN]
    rw [ixN_eq (m := a * 13 + b) (t1.done a b (by omega) (by omega) (Nat.le_refl _) (Nat.le_refl _) (.inl (by omega)))]
    rfl
  · rw [if_neg c, decide_eq_true c]; rfl
end Go.Vc
/-
  PLAIN LAWS OF CUT, 10: the document's table; layouts of the best worth; the statement CutBest.
-/
namespace Go.Vc
set_option linter.unusedVariables false
set_option linter.unnecessarySimpa false
set_option linter.unusedSimpArgs false
set_option linter.unusedSimpArgs false

/-! The table of Most. -/
structure TabI (f : Choice → Int) (ks : List Kind) (w h a b : Nat) (T : List Int) : Prop where
  len : T.length = 169
  done : ∀ i j, 1 ≤ i → 1 ≤ j → i ≤ w → j ≤ h → (i < a ∨ (i = a ∧ j < b)) → T[at13 i j]? = some (f (best ks i j))
theorem TabI.init {f : Choice → Int} {ks : List Kind} {w h : Nat} : TabI f ks w h 1 1 (List.replicate 169 (0 : Int)) :=
  ⟨List.length_replicate .., fun i j h1 h2 _ _ h => by omega⟩
theorem TabI.set {f : Choice → Int} {ks : List Kind} {w h a b : Nat} {T : List Int} (t : TabI f ks w h a b T) (hw : w ≤ 12) (hh : h ≤ 12) (ha : 1 ≤ a) (hb : 1 ≤ b) (haw : a ≤ w) (hbh : b ≤ h) : TabI f ks w h a (b + 1) (T.set (at13 a b) (f (best ks a b))) := by
  have hlt : at13 a b < T.length := by rw [t.len]; unfold at13; omega
  refine ⟨by simp [t.len], fun i j h1 h2 h3 h4 hd => ?_⟩
  rw [List.getElem?_set]
  by_cases he : at13 a b = at13 i j
  · obtain ⟨rfl, rfl⟩ := at_inj (by omega) (by omega) he
    rw [if_pos rfl, if_pos hlt]
  · rw [if_neg he]
    refine t.done i j h1 h2 h3 h4 ?_
    rcases hd with hd | ⟨rfl, hd⟩
    · exact .inl hd
    · by_cases hj : j = b
      · subst hj; exact absurd rfl he
      · exact .inr ⟨rfl, by omega⟩
theorem TabI.row {f : Choice → Int} {ks : List Kind} {w h a : Nat} {T : List Int} (t : TabI f ks w h a (h + 1) T) : TabI f ks w h (a + 1) 1 T := by
  refine ⟨t.len, fun i j h1 h2 h3 h4 hd => t.done i j h1 h2 h3 h4 ?_⟩
  by_cases hi : i = a
  · exact .inr ⟨hi, by omega⟩
  · exact .inl (by omega)
theorem better_bif {α : Type} {z s : Choice} {A B : α} : (bif decide (s.worth < z.worth) then A else (bif decide (z.worth = s.worth) then (bif decide (z.labels < s.labels) then A else B) else B)) = bif betterB z s then A else B := by
  unfold betterB
  cases decide (s.worth < z.worth) <;> cases decide (z.worth = s.worth) <;> cases decide (z.labels < s.labels) <;> rfl
abbrev wo : Choice → Int := Choice.worth
abbrev la : Choice → Int := Choice.labels
theorem f30_row18 {N w h a b : Nat} {w0 h0 : Int} {ks : List Kind} {T U : List Int} {k4 : Int → Int → Option (Int × Int × Int)} {s0 : Choice} (t : TabI wo ks w h a b T) (u : TabI la ks w h a b U) (hw : w ≤ 12) (hh : h ≤ 12) (ha : 1 ≤ a) (hb : 1 ≤ b) (haw : a ≤ w) (hbh : b ≤ h) (hN : 30 < N) :
    f30_18 w0 h0 ks (a : Int) (b : Int) T U k4 N s0.worth s0.labels (1 : Int) = k4 (iter (stepX (best ks) a b) a s0).worth (iter (stepX (best ks) a b) a s0).labels := by
  obtain ⟨s', h1, h2⟩ := loopE (F := fun n (s : Int × Int) i => f30_18 w0 h0 ks (a : Int) (b : Int) T U k4 n s.1 s.2 i) (k := fun s => k4 s.1 s.2) 1 a (fun i s => s = ((iter (stepX (best ks) a b) i s0).worth, (iter (stepX (best ks) a b) i s0).labels))
    (fun n s i h1 h2 hI => by
      subst hI
      have r1 : T[at13 i b]? = some (best ks i b).worth := t.done i b h1 hb (by omega) hbh (.inl h2)
      have r2 : T[at13 (a - i) b]? = some (best ks (a - i) b).worth := t.done (a - i) b (by omega) hb (by omega) hbh (.inl (by omega))
      have q1 : U[at13 i b]? = some (best ks i b).labels := u.done i b h1 hb (by omega) hbh (.inl h2)
      have q2 : U[at13 (a - i) b]? = some (best ks (a - i) b).labels := u.done (a - i) b (by omega) hb (by omega) hbh (.inl (by omega))
      have hsub : W ((a : Int) - (i : Int)) = ((a - i : Nat) : Int) := by rw [W_in (by omega) (by omega)]; omega
      refine ⟨_, rfl, ?_⟩
      rw [iter_succ _ _ _ h1]
      generalize iter (stepX (best ks) a b) i s0 = s
      simp only [f30_18, f30_18b, decide_eq_true (show (i : Int) < (a : Int) by omega), cond_true, hsub, chk_ok (α := Unit) (show i ≤ 12 by omega), chk_ok (α := Unit) (show b ≤ 12 by omega), chk_ok (α := Unit) (show a - i ≤ 12 by omega), toN]
      rw [ixN_eq (m := i * 13 + b) r1]
      simp only [Option.bind_some]
      rw [ixN_eq (m := (a - i) * 13 + b) r2]
      simp only [Option.bind_some]
      rw [ixN_eq (m := i * 13 + b) q1]
      simp only [Option.bind_some]
      rw [ixN_eq (m := (a - i) * 13 + b) q2]
      simp only [Option.bind_some, W_nat (show i < 9223372036854775807 by omega)]
      refine Eq.trans (better_bif (z := joinC (best ks i b) (best ks (a - i) b) ⟨true, (i : Int)⟩) (s := s)) ?_
      unfold stepX tryC
      cases betterB (joinC (best ks i b) (best ks (a - i) b) ⟨true, (i : Int)⟩) s <;> rfl)
    (fun n s => by simp [f30_18, f30_18b]) N (s0.worth, s0.labels) rfl ha (by omega)
  rw [h1] at h2; exact h2
theorem f30_row24 {N w h a b : Nat} {w0 h0 : Int} {ks : List Kind} {T U : List Int} {k4 : Int → Int → Option (Int × Int × Int)} {s0 : Choice} (t : TabI wo ks w h a b T) (u : TabI la ks w h a b U) (hw : w ≤ 12) (hh : h ≤ 12) (ha : 1 ≤ a) (hb : 1 ≤ b) (haw : a ≤ w) (hbh : b ≤ h) (hN : 30 < N) :
    f30_24 w0 h0 ks (a : Int) (b : Int) T U k4 N s0.worth s0.labels (1 : Int) = k4 (iter (stepY (best ks) a b) b s0).worth (iter (stepY (best ks) a b) b s0).labels := by
  obtain ⟨s', h1, h2⟩ := loopE (F := fun n (s : Int × Int) i => f30_24 w0 h0 ks (a : Int) (b : Int) T U k4 n s.1 s.2 i) (k := fun s => k4 s.1 s.2) 1 b (fun i s => s = ((iter (stepY (best ks) a b) i s0).worth, (iter (stepY (best ks) a b) i s0).labels))
    (fun n s i h1 h2 hI => by
      subst hI
      have r1 : T[at13 a i]? = some (best ks a i).worth := t.done a i ha h1 haw (by omega) (.inr ⟨rfl, h2⟩)
      have r2 : T[at13 a (b - i)]? = some (best ks a (b - i)).worth := t.done a (b - i) ha (by omega) haw (by omega) (.inr ⟨rfl, by omega⟩)
      have q1 : U[at13 a i]? = some (best ks a i).labels := u.done a i ha h1 haw (by omega) (.inr ⟨rfl, h2⟩)
      have q2 : U[at13 a (b - i)]? = some (best ks a (b - i)).labels := u.done a (b - i) ha (by omega) haw (by omega) (.inr ⟨rfl, by omega⟩)
      have hsub : W ((b : Int) - (i : Int)) = ((b - i : Nat) : Int) := by rw [W_in (by omega) (by omega)]; omega
      refine ⟨_, rfl, ?_⟩
      rw [iter_succ _ _ _ h1]
      generalize iter (stepY (best ks) a b) i s0 = s
      simp only [f30_24, f30_24b, decide_eq_true (show (i : Int) < (b : Int) by omega), cond_true, hsub, chk_ok (α := Unit) (show i ≤ 12 by omega), chk_ok (α := Unit) (show a ≤ 12 by omega), chk_ok (α := Unit) (show b - i ≤ 12 by omega), toN]
      rw [ixN_eq (m := a * 13 + i) r1]
      simp only [Option.bind_some]
      rw [ixN_eq (m := a * 13 + (b - i)) r2]
      simp only [Option.bind_some]
      rw [ixN_eq (m := a * 13 + i) q1]
      simp only [Option.bind_some]
      rw [ixN_eq (m := a * 13 + (b - i)) q2]
      simp only [Option.bind_some, W_nat (show i < 9223372036854775807 by omega)]
      refine Eq.trans (better_bif (z := joinC (best ks a i) (best ks a (b - i)) ⟨false, (i : Int)⟩) (s := s)) ?_
      unfold stepY tryC
      cases betterB (joinC (best ks a i) (best ks a (b - i)) ⟨false, (i : Int)⟩) s <;> rfl)
    (fun n s => by simp [f30_24, f30_24b]) N (s0.worth, s0.labels) rfl hb (by omega)
  rw [h1] at h2; exact h2
theorem f30_tab {N w h : Nat} {ks : List Kind} {k0 : List Int → List Int → Option (Int × Int × Int)} (hw : w ≤ 12) (hh : h ≤ 12) (h1w : 1 ≤ w) (h1h : 1 ≤ h) (hk : ks.length ≤ 30) (hok : kindsS ks = 0) (hN : 30 < N) :
    ∃ s : List Int × List Int, (TabI wo ks w h (w + 1) 1 s.1 ∧ TabI la ks w h (w + 1) 1 s.2) ∧ f30_8 (w : Int) (h : Int) ks N k0 N (1 : Int) (List.replicate 169 (0 : Int)) (List.replicate 169 (0 : Int)) = k0 s.1 s.2 := by
  refine loopE (F := fun n (s : List Int × List Int) i => f30_8 (w : Int) (h : Int) ks N k0 n i s.1 s.2) (k := fun s => k0 s.1 s.2) 1 (w + 1) (fun a s => TabI wo ks w h a 1 s.1 ∧ TabI la ks w h a 1 s.2) (fun n s a h1 h2 hI => ?_) (fun n s => by simp only [f30_8, f30_8b, decide_eq_false (show ¬ ((w + 1 : Nat) : Int) ≤ (w : Int) by omega), cond_false]) N (List.replicate 169 0, List.replicate 169 0) ⟨TabI.init, TabI.init⟩ (by omega) (by omega)
  obtain ⟨s', i1, i2⟩ := loopE (F := fun m (s : List Int × List Int) i => f30_11 (w : Int) (h : Int) ks N (a : Int) (f30_c9 (w : Int) (h : Int) ks (a : Int) (f30_8 (w : Int) (h : Int) ks N k0 n)) m i s.1 s.2) (k := fun s => f30_c9 (w : Int) (h : Int) ks (a : Int) (f30_8 (w : Int) (h : Int) ks N k0 n) s.1 s.2) 1 (h + 1) (fun b s => TabI wo ks w h a b s.1 ∧ TabI la ks w h a b s.2)
    (fun m s b g1 g2 hI => by
      obtain ⟨t, u⟩ := hI
      have hlt : at13 a b < s.1.length := by rw [t.len]; unfold at13; omega
      have hlu : at13 a b < s.2.length := by rw [u.len]; unfold at13; omega
      refine ⟨(s.1.set (at13 a b) (wo (best ks a b)), s.2.set (at13 a b) (la (best ks a b))), ⟨t.set hw hh h1 g1 (by omega) (by omega), u.set hw hh h1 g1 (by omega) (by omega)⟩, ?_⟩
      simp only [f30_11, f30_11b, decide_eq_true (show (b : Int) ≤ (h : Int) by omega), cond_true, joinK, f51_eq hk hN, Option.bind_some]
      have go : ∀ s0 : Choice, f30_c17 (w : Int) (h : Int) ks N (a : Int) (b : Int) s.1 s.2 (f30_c12 (w : Int) (h : Int) ks (a : Int) (b : Int) (f30_11 (w : Int) (h : Int) ks N (a : Int) (f30_c9 (w : Int) (h : Int) ks (a : Int) (f30_8 (w : Int) (h : Int) ks N k0 n)) m)) s0.worth s0.labels = f30_11 (w : Int) (h : Int) ks N (a : Int) (f30_c9 (w : Int) (h : Int) ks (a : Int) (f30_8 (w : Int) (h : Int) ks N k0 n)) m ((b + 1 : Nat) : Int) (s.1.set (at13 a b) (iter (stepY (best ks) a b) b (iter (stepX (best ks) a b) a s0)).worth) (s.2.set (at13 a b) (iter (stepY (best ks) a b) b (iter (stepX (best ks) a b) a s0)).labels) := by
        intro s0
        simp only [f30_c17, joinK]
        rw [f30_row18 t u hw hh h1 g1 (by omega) (by omega) hN]
        simp only [f30_c23, joinK]
        rw [f30_row24 t u hw hh h1 g1 (by omega) (by omega) hN]
        simp only [f30_c29, chk_ok (α := Unit) (show a ≤ 12 by omega), chk_ok (α := Unit) (show b ≤ 12 by omega), toN]
        rw [setN_eq (m := a * 13 + b) hlt]
        simp only [Option.bind_some]
        rw [setN_eq (m := a * 13 + b) hlu]
        simp only [Option.bind_some, f30_c12, W_nat (show b < 9223372036854775807 by omega)]
        rfl
      rw [best_eq h1 g1]
      unfold cellC startC
      have hb0 := bestV_neg (w := (a : Int)) (h := (b : Int)) ks (kindsS_ok hok)
      have hle := bestV_le (w := (a : Int)) (h := (b : Int)) ks 0
      have hno : hasV (a : Int) (b : Int) ks = false → bestV (a : Int) (b : Int) ks 0 = 0 := by
        intro hv
        have : ∀ (l : List Kind) (o : Int), (l.any fun k => decide (k.W = (a : Int)) && decide (k.H = (b : Int))) = false → bestV (a : Int) (b : Int) l o = o := by
          intro l
          induction l with
          | nil => intro o _; rfl
          | cons k r ih =>
            intro o hh
            rw [List.any_cons, Bool.or_eq_false_iff] at hh
            simp only [bestV]
            rw [if_neg (by simpa using hh.1)]
            exact ih o hh.2
        exact this ks 0 hv
      have hpos : decide (0 < bestV (a : Int) (b : Int) ks (-1)) = decide (0 < bestV (a : Int) (b : Int) ks 0) := by
        rw [hb0]
        cases hv : hasV (a : Int) (b : Int) ks with
        | true => rfl
        | false => rw [hno hv]; rfl
      rw [hpos]
      cases hd : decide (0 < bestV (a : Int) (b : Int) ks 0) with
      | true =>
        rw [cond_true, cond_true]
        have heq : bestV (a : Int) (b : Int) ks (-1) = bestV (a : Int) (b : Int) ks 0 := by
          rw [hb0]
          cases hv : hasV (a : Int) (b : Int) ks with
          | true => rfl
          | false => rw [hno hv] at hd; cases hd
        rw [heq]
        exact go ⟨_, 1, true, ⟨false, 0⟩⟩
      | false =>
        rw [cond_false, cond_false]
        exact go zeroC)
    (fun m s => by simp only [f30_11, f30_11b, decide_eq_false (show ¬ ((h + 1 : Nat) : Int) ≤ (h : Int) by omega), cond_false]) N s hI (by omega) (by omega)
  refine ⟨s', ⟨i1.1.row, i1.2.row⟩, ?_⟩
  simp only [f30_8, f30_8b, decide_eq_true (show (a : Int) ≤ (w : Int) by omega), cond_true, joinK]
  refine Eq.trans i2 ?_
  simp only [f30_c9, W_nat (show a < 9223372036854775807 by omega)]
def mostS (w h : Int) (ks : List Kind) : Int × Int × Int := if askedS w h ks = 0 then ((best ks w.toNat h.toNat).worth, (best ks w.toNat h.toNat).labels, 0) else (0, 0, askedS w h ks)
theorem f30_eq {N : Nat} {w h : Int} {ks : List Kind} (hk : ks.length ≤ 30) (hN : 30 < N) : f30 N w h ks = some (mostS w h ks) := by
  unfold f30 mostS
  simp only [f56_eq, Option.bind_some, f50_eq hk hN]
  by_cases c1 : 1 ≤ w ∧ w ≤ 12
  · by_cases c2 : 1 ≤ h ∧ h ≤ 12
    · have ha : askedS w h ks = kindsS ks := by unfold askedS; rw [if_neg (Classical.not_not.2 c1), if_neg (Classical.not_not.2 c2)]
      rw [ha]
      simp only [c1, c2, decide_true, Bool.and_self, Bool.not_true, cond_false]
      by_cases c : kindsS ks = 0
      · obtain ⟨a, rfl⟩ : ∃ a : Nat, w = (a : Int) := ⟨w.toNat, by omega⟩
        obtain ⟨b, rfl⟩ : ∃ b : Nat, h = (b : Int) := ⟨h.toNat, by omega⟩
        obtain ⟨s, ⟨t1, t2⟩, t3⟩ := f30_tab (N := N) (w := a) (h := b) (ks := ks) (k0 := f30_c30 (a : Int) (b : Int)) (by omega) (by omega) (by omega) (by omega) hk c hN
        rw [if_pos c, decide_eq_false (Classical.not_not.2 c), cond_false]
        simp only [joinK]
        refine Eq.trans t3 ?_
        simp only [f30_c30, chk_ok (α := Unit) (show a ≤ 12 by omega), chk_ok (α := Unit) (show b ≤ 12 by omega), toN]
        rw [ixN_eq (m := a * 13 + b) (t1.done a b (by omega) (by omega) (Nat.le_refl _) (Nat.le_refl _) (.inl (by omega)))]
        simp only [Option.bind_some]
        rw [ixN_eq (m := a * 13 + b) (t2.done a b (by omega) (by omega) (Nat.le_refl _) (Nat.le_refl _) (.inl (by omega)))]
        rfl
      · rw [if_neg c, decide_eq_true c]; rfl
    · have : (decide (1 ≤ h) && decide (h ≤ 12)) = false := by simpa using c2
      have ha : askedS w h ks = 3 := by unfold askedS; rw [if_neg (Classical.not_not.2 c1), if_pos c2]
      rw [ha]
      simp [c1, this]
  · have : (decide (1 ≤ w) && decide (w ≤ 12)) = false := by simpa using c1
    have ha : askedS w h ks = 3 := by unfold askedS; rw [if_pos c1]
    rw [ha]
    simp [this]
end Go.Vc
/-
  PLAIN LAWS OF CUT, 11: the layout that is returned.
-/
namespace Go.Vc
set_option linter.unusedVariables false
set_option linter.unnecessarySimpa false
set_option linter.unusedSimpArgs false
set_option linter.unusedSimpArgs false

/-! What the best choices are. -/
structure Bd (a b : Nat) (c : Choice) : Prop where
  w0 : 0 ≤ c.worth
  w1 : c.worth ≤ ((1000 * (a * b) : Nat) : Int)
  l0 : 0 ≤ c.labels
  l1 : c.labels ≤ ((a * b : Nat) : Int)
inductive How (ks : List Kind) (a b : Nat) (c : Choice) : Prop where
  | sold (h : c.sold = true) (h1 : c.worth = bestV a b ks 0) (h2 : 0 < c.worth) (h3 : c.labels = 1) : How ks a b c
  | up (h : c.sold = false) (i : Nat) (h1 : 1 ≤ i) (h2 : i < a) (h3 : c.cut = ⟨true, (i : Int)⟩) (h4 : c.worth = (best ks i b).worth + (best ks (a - i) b).worth) (h5 : c.labels = (best ks i b).labels + (best ks (a - i) b).labels) : How ks a b c
  | lie (h : c.sold = false) (i : Nat) (h1 : 1 ≤ i) (h2 : i < b) (h3 : c.cut = ⟨false, (i : Int)⟩) (h4 : c.worth = (best ks a i).worth + (best ks a (b - i)).worth) (h5 : c.labels = (best ks a i).labels + (best ks a (b - i)).labels) : How ks a b c
  | none (h : c = zeroC) : How ks a b c
theorem iter_inv {f : Nat → Choice → Choice} {P : Choice → Prop} : ∀ (m : Nat) (s : Choice), P s → (∀ i s, 1 ≤ i → i < m → P s → P (f i s)) → P (iter f m s)
  | 0, _, h, _ => h
  | 1, _, h, _ => h
  | m + 2, s, h, hf => by
    rw [iter_succ f (m + 1) s (by omega)]
    exact hf (m + 1) _ (by omega) (by omega) (iter_inv (m + 1) s h fun i s h1 h2 => hf i s h1 (by omega))
theorem area {a b : Nat} (ha : a ≤ 12) (hb : b ≤ 12) : a * b ≤ 144 := Nat.mul_le_mul ha hb
theorem best_props {ks : List Kind} (hok : kindsS ks = 0) : ∀ (n a b : Nat), a + b ≤ n → 1 ≤ a → 1 ≤ b → a ≤ 12 → b ≤ 12 → Bd a b (best ks a b) ∧ How ks a b (best ks a b) := by
  intro n
  induction n with
  | zero => intro a b h ha; omega
  | succ n ih =>
    intro a b hn ha hb ha2 hb2
    have har := area ha2 hb2
    have hpos : 1 ≤ a * b := Nat.mul_pos ha hb
    rw [best_eq ha hb]
    unfold cellC
    have P0 : Bd a b (startC ks a b) ∧ How ks a b (startC ks a b) := by
      unfold startC
      have h1 := bestV_ub (w := (a : Int)) (h := (b : Int)) ks 0 (kindsS_ok hok) (by omega)
      have h0 := bestV_le (w := (a : Int)) (h := (b : Int)) ks 0
      cases hd : decide (0 < bestV (a : Int) (b : Int) ks 0) with
      | true =>
        rw [decide_eq_true_iff] at hd
        exact ⟨⟨by show 0 ≤ bestV _ _ _ _; omega, by show bestV _ _ _ _ ≤ _; omega, by show (0 : Int) ≤ 1; omega, by show (1 : Int) ≤ _; omega⟩, .sold rfl rfl hd rfl⟩
      | false => exact ⟨⟨by show (0 : Int) ≤ 0; omega, by show (0 : Int) ≤ _; omega, by show (0 : Int) ≤ 0; omega, by show (0 : Int) ≤ _; omega⟩, .none rfl⟩
    have P1 : Bd a b (iter (stepX (best ks) a b) a (startC ks a b)) ∧ How ks a b (iter (stepX (best ks) a b) a (startC ks a b)) := by
      refine iter_inv (P := fun s => Bd a b s ∧ How ks a b s) a _ P0 fun i s h1 h2 hs => ?_
      unfold stepX tryC
      cases betterB (joinC (best ks i b) (best ks (a - i) b) ⟨true, (i : Int)⟩) s with
      | false => exact hs
      | true =>
        obtain ⟨x, _⟩ := ih i b (by omega) h1 hb (by omega) hb2
        obtain ⟨y, _⟩ := ih (a - i) b (by omega) (by omega) hb (by omega) hb2
        have e : i * b + (a - i) * b = a * b := by rw [← Nat.add_mul]; congr 1; omega
        have x1 := x.w0; have x2 := x.w1; have x3 := x.l0; have x4 := x.l1
        have y1 := y.w0; have y2 := y.w1; have y3 := y.l0; have y4 := y.l1
        have e1 : W ((best ks i b).worth + (best ks (a - i) b).worth) = (best ks i b).worth + (best ks (a - i) b).worth := W_in (by omega) (by omega)
        have e2 : W ((best ks i b).labels + (best ks (a - i) b).labels) = (best ks i b).labels + (best ks (a - i) b).labels := W_in (by omega) (by omega)
        rw [cond_true]
        refine ⟨⟨by show 0 ≤ W _; omega, by show W _ ≤ _; omega, by show 0 ≤ W _; omega, by show W _ ≤ _; omega⟩, .up rfl i h1 h2 rfl e1 e2⟩
    refine iter_inv (P := fun s => Bd a b s ∧ How ks a b s) b _ P1 fun i s h1 h2 hs => ?_
    unfold stepY tryC
    cases betterB (joinC (best ks a i) (best ks a (b - i)) ⟨false, (i : Int)⟩) s with
    | false => exact hs
    | true =>
      obtain ⟨x, _⟩ := ih a i (by omega) ha h1 ha2 (by omega)
      obtain ⟨y, _⟩ := ih a (b - i) (by omega) ha (by omega) ha2 (by omega)
      have e : a * i + a * (b - i) = a * b := by rw [← Nat.mul_add]; congr 1; omega
      have x1 := x.w0; have x2 := x.w1; have x3 := x.l0; have x4 := x.l1
      have y1 := y.w0; have y2 := y.w1; have y3 := y.l0; have y4 := y.l1
      have e1 : W ((best ks a i).worth + (best ks a (b - i)).worth) = (best ks a i).worth + (best ks a (b - i)).worth := W_in (by omega) (by omega)
      have e2 : W ((best ks a i).labels + (best ks a (b - i)).labels) = (best ks a i).labels + (best ks a (b - i)).labels := W_in (by omega) (by omega)
      rw [cond_true]
      refine ⟨⟨by show 0 ≤ W _; omega, by show W _ ≤ _; omega, by show 0 ≤ W _; omega, by show W _ ≤ _; omega⟩, .lie rfl i h1 h2 rfl e1 e2⟩

/-! The layout. -/
def layR (ks : List Kind) : Nat → Label → List Label
  | 0, _ => []
  | k + 1, p => bif (best ks p.W.toNat p.H.toNat).sold then [p] else
    bif (best ks p.W.toNat p.H.toNat).cut.Up then layR ks k ⟨p.X, p.Y, (best ks p.W.toNat p.H.toNat).cut.At, p.H⟩ ++ layR ks k ⟨p.X + (best ks p.W.toNat p.H.toNat).cut.At, p.Y, p.W - (best ks p.W.toNat p.H.toNat).cut.At, p.H⟩ else
    bif decide (0 < (best ks p.W.toNat p.H.toNat).cut.At) then layR ks k ⟨p.X, p.Y, p.W, (best ks p.W.toNat p.H.toNat).cut.At⟩ ++ layR ks k ⟨p.X, p.Y + (best ks p.W.toNat p.H.toNat).cut.At, p.W, p.H - (best ks p.W.toNat p.H.toNat).cut.At⟩ else []
def Apart2 (x y : Label) : Prop := x.X + x.W ≤ y.X ∨ y.X + y.W ≤ x.X ∨ x.Y + x.H ≤ y.Y ∨ y.Y + y.H ≤ x.Y
theorem bestV_has {w h : Int} : ∀ (l : List Kind) (o : Int), o < bestV w h l o → hasV w h l = true
  | [], o, h0 => by simp [bestV] at h0
  | k :: r, o, h0 => by
    simp only [bestV, hasV, List.any_cons] at *
    by_cases c : k.W = w ∧ k.H = h
    · simp [c]
    · rw [if_neg c] at h0
      have := bestV_has r o h0
      unfold hasV at this
      rw [this, Bool.or_true]
theorem worthL_append {ks : List Kind} : ∀ (l r : List Label) (s t : Int), worthL ks l s = some t → worthL ks (l ++ r) s = worthL ks r t
  | [], r, s, t, h => by cases h; rfl
  | x :: l, r, s, t, h => by
    simp only [List.cons_append, worthL] at *
    cases hv : hasV x.W x.H ks with
    | false => rw [hv] at h; cases h
    | true => rw [hv, cond_true] at h; rw [cond_true]; exact worthL_append l r _ t h
theorem fits_trans {p q x : Label} (h : Fits q x) (hx : p.X ≤ q.X) (hy : p.Y ≤ q.Y) (hw : q.X + q.W ≤ p.X + p.W) (hh : q.Y + q.H ≤ p.Y + p.H) : Fits p x := by
  have t1 := h.w; have t2 := h.h; have t3 := h.x0; have t4 := h.y0; have t5 := h.x1; have t6 := h.y1
  exact ⟨t1, t2, by omega, by omega, by omega, by omega⟩
structure LayOK (ks : List Kind) (p : Label) (c : Choice) (l : List Label) : Prop where
  len : (l.length : Int) = c.labels
  worth : ∀ s, 0 ≤ s → s + c.worth ≤ 1000000 → worthL ks l s = some (s + c.worth)
  fits : ∀ x, x ∈ l → Fits p x
  sep : Sep l
  apart : l.Pairwise Apart2
theorem sep_app {l r : List Label} (c : Cut) (h1 : ∀ x, x ∈ l → before c x = true) (h2 : ∀ x, x ∈ r → before c x = false ∧ behind c x = true) (hl : Sep l) (hr : Sep r) : Sep (l ++ r) := by
  refine .cut c (fun x hx => ?_) ?_ ?_
  · rcases List.mem_append.1 hx with hx | hx
    · rw [h1 x hx]; rfl
    · rw [(h2 x hx).2, Bool.or_true]
  · rw [List.filter_append, List.filter_eq_self.2 h1, List.filter_eq_nil_iff.2 (fun x hx => by rw [(h2 x hx).1]; simp), List.append_nil]; exact hl
  · rw [List.filter_append, List.filter_eq_nil_iff.2 (fun x hx => by rw [h1 x hx]; simp), List.filter_eq_self.2 (fun x hx => by rw [(h2 x hx).1]; rfl), List.nil_append]; exact hr
theorem lay_ok {ks : List Kind} (hok : kindsS ks = 0) : ∀ (k a b : Nat) (p : Label), a + b ≤ k → 1 ≤ a → 1 ≤ b → a ≤ 12 → b ≤ 12 → p.W = (a : Int) → p.H = (b : Int) → 0 ≤ p.X → 0 ≤ p.Y → LayOK ks p (best ks a b) (layR ks k p) := by
  intro k
  induction k with
  | zero => intro a b p h ha; omega
  | succ k ih =>
    intro a b p hk ha hb ha2 hb2 hw hh hx hy
    obtain ⟨bd, how⟩ := best_props hok (a + b) a b (Nat.le_refl _) ha hb ha2 hb2
    have har := area ha2 hb2
    have eW : p.W.toNat = a := by omega
    have eH : p.H.toNat = b := by omega
    simp only [layR, eW, eH]
    cases how with
    | sold h h1 h2 h3 =>
      rw [h, cond_true]
      refine ⟨by rw [h3]; rfl, fun s h0 h00 => ?_, fun x hx' => ?_, .few (by simp), by simp⟩
      · simp only [worthL, hw, hh]
        rw [bestV_has ks 0 (by rw [← h1]; exact h2), cond_true, h1, W_in (by rw [← h1]; have := bd.w0; omega) (by rw [← h1]; omega)]
      · simp at hx'; subst hx'
        exact ⟨by omega, by omega, Int.le_refl _, Int.le_refl _, Int.le_refl _, Int.le_refl _⟩
    | up h i h1 h2 h3 h4 h5 =>
      rw [h, cond_false, h3]
      simp only [cond_true]
      have A := ih i b ⟨p.X, p.Y, (i : Int), p.H⟩ (by omega) h1 hb (by omega) hb2 rfl hh hx hy
      have B := ih (a - i) b ⟨p.X + (i : Int), p.Y, p.W - (i : Int), p.H⟩ (by omega) (by omega) hb (by omega) hb2 (by show p.W - (i : Int) = _; omega) hh (by show 0 ≤ p.X + (i : Int); omega) hy
      obtain ⟨bx, _⟩ := best_props hok (i + b) i b (Nat.le_refl _) h1 hb (by omega) hb2
      have bx0 := bx.w0; have bx1 := bx.w1
      have hle : i * b ≤ 144 := area (by omega) hb2
      have fA : ∀ x, x ∈ layR ks k ⟨p.X, p.Y, (i : Int), p.H⟩ → Fits p x ∧ x.X + x.W ≤ p.X + (i : Int) := fun x hx' => by
        have f := A.fits x hx'
        exact ⟨fits_trans f (Int.le_refl _) (Int.le_refl _) (by show p.X + (i : Int) ≤ _; omega) (Int.le_refl _), f.x1⟩
      have fB : ∀ x, x ∈ layR ks k ⟨p.X + (i : Int), p.Y, p.W - (i : Int), p.H⟩ → Fits p x ∧ p.X + (i : Int) ≤ x.X := fun x hx' => by
        have f := B.fits x hx'
        exact ⟨fits_trans f (by show p.X ≤ p.X + (i : Int); omega) (Int.le_refl _) (by show p.X + (i : Int) + (p.W - (i : Int)) ≤ _; omega) (Int.le_refl _), f.x0⟩
      refine ⟨by rw [List.length_append, h5, ← A.len, ← B.len]; omega, fun s h0 h00 => ?_, fun x hx' => ?_, ?_, ?_⟩
      · obtain ⟨bx, _⟩ := best_props hok (i + b) i b (Nat.le_refl _) h1 hb (by omega) hb2
        obtain ⟨by', _⟩ := best_props hok ((a - i) + b) (a - i) b (Nat.le_refl _) (by omega) hb (by omega) hb2
        have bx0 := bx.w0; have by0 := by'.w0
        rw [h4] at h00 ⊢
        rw [worthL_append _ _ _ _ (A.worth s h0 (by omega)), B.worth _ (by omega) (by omega)]
        congr 1; omega
      · rcases List.mem_append.1 hx' with hx' | hx'
        · exact (fA x hx').1
        · exact (fB x hx').1
      · refine sep_app ⟨true, p.X + (i : Int)⟩ (fun x hx' => before_iff.2 (fA x hx').2) (fun x hx' => ⟨before_not.2 ?_, behind_iff.2 (fB x hx').2⟩) A.sep B.sep
        have := (fB x hx').1.w; have h2 := (fB x hx').2
        show ¬ x.X + x.W ≤ p.X + (i : Int)
        omega
      · rw [List.pairwise_append]
        exact ⟨A.apart, B.apart, fun x hx' y hy' => .inl (by have := (fA x hx').2; have := (fB y hy').2; omega)⟩
    | lie h i h1 h2 h3 h4 h5 =>
      rw [h, cond_false, h3]
      simp only [cond_false, decide_eq_true (show 0 < (i : Int) by omega), cond_true]
      have A := ih a i ⟨p.X, p.Y, p.W, (i : Int)⟩ (by omega) ha h1 ha2 (by omega) hw rfl hx hy
      have B := ih a (b - i) ⟨p.X, p.Y + (i : Int), p.W, p.H - (i : Int)⟩ (by omega) ha (by omega) ha2 (by omega) hw (by show p.H - (i : Int) = _; omega) hx (by show 0 ≤ p.Y + (i : Int); omega)
      have fA : ∀ x, x ∈ layR ks k ⟨p.X, p.Y, p.W, (i : Int)⟩ → Fits p x ∧ x.Y + x.H ≤ p.Y + (i : Int) := fun x hx' => by
        have f := A.fits x hx'
        exact ⟨fits_trans f (Int.le_refl _) (Int.le_refl _) (Int.le_refl _) (by show p.Y + (i : Int) ≤ _; omega), f.y1⟩
      have fB : ∀ x, x ∈ layR ks k ⟨p.X, p.Y + (i : Int), p.W, p.H - (i : Int)⟩ → Fits p x ∧ p.Y + (i : Int) ≤ x.Y := fun x hx' => by
        have f := B.fits x hx'
        exact ⟨fits_trans f (Int.le_refl _) (by show p.Y ≤ p.Y + (i : Int); omega) (Int.le_refl _) (by show p.Y + (i : Int) + (p.H - (i : Int)) ≤ _; omega), f.y0⟩
      refine ⟨by rw [List.length_append, h5, ← A.len, ← B.len]; omega, fun s h0 h00 => ?_, fun x hx' => ?_, ?_, ?_⟩
      · obtain ⟨bx, _⟩ := best_props hok (a + i) a i (Nat.le_refl _) ha h1 ha2 (by omega)
        obtain ⟨by', _⟩ := best_props hok (a + (b - i)) a (b - i) (Nat.le_refl _) ha (by omega) ha2 (by omega)
        have bx0 := bx.w0; have by0 := by'.w0
        rw [h4] at h00 ⊢
        rw [worthL_append _ _ _ _ (A.worth s h0 (by omega)), B.worth _ (by omega) (by omega)]
        congr 1; omega
      · rcases List.mem_append.1 hx' with hx' | hx'
        · exact (fA x hx').1
        · exact (fB x hx').1
      · refine sep_app ⟨false, p.Y + (i : Int)⟩ (fun x hx' => before_iff.2 (fA x hx').2) (fun x hx' => ⟨before_not.2 ?_, behind_iff.2 (fB x hx').2⟩) A.sep B.sep
        have := (fB x hx').1.h; have h2 := (fB x hx').2
        show ¬ x.Y + x.H ≤ p.Y + (i : Int)
        omega
      · rw [List.pairwise_append]
        exact ⟨A.apart, B.apart, fun x hx' y hy' => .inr (.inr (.inl (by have := (fA x hx').2; have := (fB y hy').2; omega)))⟩
    | none h =>
      rw [h]
      exact ⟨rfl, fun s _ _ => by show some s = some (s + 0); rw [Int.add_zero], fun x hx => (by cases hx), .few (Nat.zero_le _), List.Pairwise.nil⟩

/-! The program's put. -/
theorem f68_eq {ks : List Kind} (hok : kindsS ks = 0) {w h : Nat} (hw12 : w ≤ 12) (hh12 : h ≤ 12) {T : List Choice} (t : Tab ks w h (w + 1) 1 T) (s1 s2 : Int) : ∀ (k a b : Nat) (p : Label) (n : Nat) (L : List Label), a + b ≤ k → 1 ≤ a → 1 ≤ b → a ≤ w → b ≤ h → p.W = (a : Int) → p.H = (b : Int) → 0 ≤ p.X → 0 ≤ p.Y → p.X + p.W ≤ 12 → p.Y + p.H ≤ 12 → k ≤ n → L.length + (layR ks k p).length ≤ 1000 →
    f68 n p s1 s2 T L = some (L ++ layR ks k p) := by
  intro k
  induction k with
  | zero => intro a b p n L h ha; omega
  | succ k ih =>
    intro a b p n L hk ha hb ha2 hb2 hw hh hx hy hx12 hy12 hn hL
    obtain ⟨n, rfl⟩ : ∃ m, n = m + 1 := ⟨n - 1, by omega⟩
    obtain ⟨bd, how⟩ := best_props hok (a + b) a b (Nat.le_refl _) ha hb (by omega) (by omega)
    have eW : p.W.toNat = a := by omega
    have eH : p.H.toNat = b := by omega
    have hget := t.done a b ha hb ha2 hb2 (.inl (by omega))
    simp only [layR, eW, eH] at hL ⊢
    simp only [f68, f68b, hw, hh, chk_ok (α := Unit) (show a ≤ 12 by omega), chk_ok (α := Unit) (show b ≤ 12 by omega), toN]
    rw [ixN_eq (m := a * 13 + b) hget]
    simp only [Option.bind_some]
    cases how with
    | sold h h1 h2 h3 =>
      rw [h] at hL ⊢
      rw [cond_true] at hL ⊢
      rw [app_ok (by simp at hL ⊢; omega) (by simp at hL ⊢; omega)]
      rfl
    | up h i h1 h2 h3 h4 h5 =>
      rw [h, h3] at hL ⊢
      simp only [cond_true, cond_false] at hL ⊢
      have hq : W ((a : Int) - (i : Int)) = p.W - (i : Int) := by rw [W_in (by omega) (by omega)]; omega
      rw [hq, ← hh]
      rw [List.length_append] at hL
      rw [ih i b ⟨p.X, p.Y, (i : Int), p.H⟩ n L (by omega) h1 hb (by omega) hb2 rfl hh hx hy (by show p.X + (i : Int) ≤ 12; omega) hy12 (by omega) (by omega)]
      simp only [Option.bind_some]
      rw [W_in (n := p.X + (i : Int)) (by omega) (by omega)]
      rw [ih (a - i) b ⟨p.X + (i : Int), p.Y, p.W - (i : Int), p.H⟩ n _ (by omega) (by omega) hb (by omega) hb2 (by show p.W - (i : Int) = _; omega) hh (by show 0 ≤ p.X + (i : Int); omega) hy (by show p.X + (i : Int) + (p.W - (i : Int)) ≤ 12; omega) hy12 (by omega) (by rw [List.length_append]; omega)]
      simp only [Option.bind_some, List.append_assoc]
      rw [hw]
    | lie h i h1 h2 h3 h4 h5 =>
      rw [h, h3] at hL ⊢
      simp only [cond_true, cond_false, decide_eq_true (show 0 < (i : Int) by omega)] at hL ⊢
      have hq : W ((b : Int) - (i : Int)) = p.H - (i : Int) := by rw [W_in (by omega) (by omega)]; omega
      rw [hq, ← hw]
      rw [List.length_append] at hL
      rw [ih a i ⟨p.X, p.Y, p.W, (i : Int)⟩ n L (by omega) ha h1 ha2 (by omega) hw rfl hx hy hx12 (by show p.Y + (i : Int) ≤ 12; omega) (by omega) (by omega)]
      simp only [Option.bind_some]
      rw [W_in (n := p.Y + (i : Int)) (by omega) (by omega)]
      rw [ih a (b - i) ⟨p.X, p.Y + (i : Int), p.W, p.H - (i : Int)⟩ n _ (by omega) ha (by omega) ha2 (by omega) hw (by show p.H - (i : Int) = _; omega) hx (by show 0 ≤ p.Y + (i : Int); omega) hx12 (by show p.Y + (i : Int) + (p.H - (i : Int)) ≤ 12; omega) (by omega) (by rw [List.length_append]; omega)]
      simp only [Option.bind_some, List.append_assoc]
      rw [hh]
    | none h =>
      rw [h]
      show some L = some (L ++ [])
      rw [List.append_nil]
def layS (w h : Int) (ks : List Kind) : Layout × Int := if askedS w h ks = 0 then (if 10 < (best ks w.toNat h.toNat).labels then (⟨0, 0, []⟩, 16) else (⟨w, h, layR ks 24 ⟨0, 0, w, h⟩⟩, 0)) else (⟨0, 0, []⟩, askedS w h ks)
theorem f31_eq {N : Nat} {w h : Int} {ks : List Kind} (hk : ks.length ≤ 30) (hN : 30 < N) : f31 N w h ks = some (layS w h ks) := by
  unfold f31 layS
  simp only [f66_eq hk hN, Option.bind_some]
  by_cases c : askedS w h ks = 0
  · obtain ⟨h1, h2, hok⟩ := asked_ok c
    obtain ⟨a, rfl⟩ : ∃ a : Nat, w = (a : Int) := ⟨w.toNat, by omega⟩
    obtain ⟨b, rfl⟩ : ∃ b : Nat, h = (b : Int) := ⟨h.toNat, by omega⟩
    obtain ⟨T, t1, t2⟩ := f31_i403_tab (N := N) (w := a) (h := b) (ks := ks) (k0 := f31_i403_c21 (a : Int) (b : Int) N) (by omega) (by omega) (by omega) (by omega) hk hN
    rw [if_pos c, decide_eq_false (Classical.not_not.2 c), cond_false]
    simp only [joinK]
    refine Eq.trans t2 ?_
    simp only [f31_i403_c21, chk_ok (α := Unit) (show a ≤ 12 by omega), chk_ok (α := Unit) (show b ≤ 12 by omega), toN]
    rw [ixN_eq (m := a * 13 + b) (t1.done a b (by omega) (by omega) (Nat.le_refl _) (Nat.le_refl _) (.inl (by omega)))]
    simp only [Option.bind_some, joinK, f31_c10]
    by_cases c10 : 10 < (best ks a b).labels
    · rw [if_pos c10, decide_eq_true c10]; rfl
    · rw [if_neg c10, decide_eq_false c10, cond_false]
      have lk := lay_ok hok 24 a b ⟨0, 0, (a : Int), (b : Int)⟩ (by omega) (by omega) (by omega) (by omega) (by omega) rfl rfl (Int.le_refl _) (Int.le_refl _)
      have hlen := lk.len
      rw [f68_eq hok (w := a) (h := b) (by omega) (by omega) t1 (a : Int) (b : Int) 24 a b ⟨0, 0, (a : Int), (b : Int)⟩ N [] (by omega) (by omega) (by omega) (Nat.le_refl _) (Nat.le_refl _) rfl rfl (Int.le_refl _) (Int.le_refl _) (by show 0 + (a : Int) ≤ 12; omega) (by show 0 + (b : Int) ≤ 12; omega) (by omega) (by simp only [List.length_nil]; omega)]
      rfl
  · rw [if_neg c, decide_eq_true c]; rfl
/-! The layout is valid. -/
theorem meets_apart {x y : Label} (hx : ∃ q, Small q ∧ Fits q x) (hy : ∃ q, Small q ∧ Fits q y) (h : Apart2 x y) : meets2 x y = false := by
  obtain ⟨q, hq, hf⟩ := hx
  have u1 := hq.x0; have u2 := hq.y0; have u3 := hq.x1; have u4 := hq.y1
  have t1 := hf.w; have t2 := hf.h; have t3 := hf.x0; have t4 := hf.y0; have t5 := hf.x1; have t6 := hf.y1
  obtain ⟨q', hq', hf'⟩ := hy
  have v1 := hq'.x0; have v2 := hq'.y0; have v3 := hq'.x1; have v4 := hq'.y1
  have w1 := hf'.w; have w2 := hf'.h; have w3 := hf'.x0; have w4 := hf'.y0; have w5 := hf'.x1; have w6 := hf'.y1
  unfold meets2
  rw [W_in (n := x.X + x.W) (by omega) (by omega), W_in (n := y.X + y.W) (by omega) (by omega), W_in (n := x.Y + x.H) (by omega) (by omega), W_in (n := y.Y + y.H) (by omega) (by omega)]
  unfold Apart2 at h
  rcases h with h | h | h | h
  · rw [decide_eq_false (show ¬ y.X < x.X + x.W by omega)]; simp
  · rw [decide_eq_false (show ¬ x.X < y.X + y.W by omega)]; simp
  · rw [decide_eq_false (show ¬ y.Y < x.Y + x.H by omega)]; simp
  · rw [decide_eq_false (show ¬ x.Y < y.Y + y.H by omega)]; simp
theorem Apart2.symm {x y : Label} (h : Apart2 x y) : Apart2 y x := by unfold Apart2 at *; omega
theorem clash_none : ∀ (l p : List Label), Laid (p ++ l) → (p ++ l).Pairwise Apart2 → clashes p l = false
  | [], _, _, _ => rfl
  | x :: r, p, hl, h => by
    simp only [clashes]
    rw [Bool.or_eq_false_iff]
    refine ⟨?_, clash_none r (p ++ [x]) (by simpa using hl) (by simpa using h)⟩
    rw [List.any_eq_false]
    intro y hy
    have := (List.pairwise_append.1 h).2.2 y hy x (by simp)
    rw [meets_apart (hl x (by simp)) (hl y (by simp [hy])) this.symm]; simp
theorem check_valid {L : Layout} (hw : 1 ≤ L.W ∧ L.W ≤ 12) (hh : 1 ≤ L.H ∧ L.H ≤ 12) (hlen : L.Labels.length ≤ 10) (hf : ∀ x, x ∈ L.Labels → Fits (sheetOf L) x) (ha : L.Labels.Pairwise Apart2) : checkS L = 0 := by
  unfold checkS
  rw [if_neg (Classical.not_not.2 hw), if_neg (Classical.not_not.2 hh), if_neg (by omega)]
  have h1 : L.Labels.findSome? (okLabel L) = none := by
    rw [List.findSome?_eq_none_iff]
    intro x hx
    have f := hf x hx
    have t1 := f.w; have t2 := f.h
    have t3 : 0 ≤ x.X := f.x0
    have t4 : 0 ≤ x.Y := f.y0
    have t5 : x.X + x.W ≤ 0 + L.W := f.x1
    have t6 : x.Y + x.H ≤ 0 + L.H := f.y1
    unfold okLabel
    rw [if_neg (by omega), if_neg (by omega), if_neg (by omega), if_neg (by omega), W_in (by omega) (by omega), W_in (by omega) (by omega), if_neg (by omega), if_neg (by omega)]
  rw [h1, clash_none L.Labels [] (fun x hx => ⟨sheetOf L, ⟨Int.le_refl _, Int.le_refl _, by show 0 + L.W ≤ 12; omega, by show 0 + L.H ≤ 12; omega, by show 0 ≤ L.W; omega, by show 0 ≤ L.H; omega⟩, hf x (by simpa using hx)⟩) (by simpa using ha)]
  rfl
theorem f5_true (w h : Int) (ks : List Kind) (hw : f13 61 = some true) : f5 61 w h ks = some true := by
  unfold f5
  by_cases c1 : 30 < (ks.length : Int)
  · simp [c1, hw]
  have hk : ks.length ≤ 30 := by omega
  simp only [c1, decide_false, cond_false, f19_eq (N := 61) hk (by omega), f29_eq hk (show 30 < 61 by omega), f30_eq hk (show 30 < 61 by omega), f31_eq hk (show 30 < 61 by omega), Option.bind_some, joinK]
  by_cases c : askedS w h ks = 0
  · obtain ⟨h1, h2, hok⟩ := asked_ok c
    obtain ⟨a, rfl⟩ : ∃ a : Nat, w = (a : Int) := ⟨w.toNat, by omega⟩
    obtain ⟨b, rfl⟩ : ∃ b : Nat, h = (b : Int) := ⟨h.toNat, by omega⟩
    have e1 : bestS (a : Int) (b : Int) ks = ((best ks a b).worth, 0) := by unfold bestS; rw [if_pos c]; rfl
    have e2 : mostS (a : Int) (b : Int) ks = ((best ks a b).worth, (best ks a b).labels, 0) := by unfold mostS; rw [if_pos c]; rfl
    rw [e1, e2]
    by_cases c10 : 10 < (best ks a b).labels
    · have e3 : layS (a : Int) (b : Int) ks = (⟨0, 0, []⟩, 16) := by unfold layS; rw [if_pos c]; exact if_pos c10
      rw [e3]
      simp [c10, f5_c11, hw]
    · have e3 : layS (a : Int) (b : Int) ks = (⟨(a : Int), (b : Int), layR ks 24 ⟨0, 0, (a : Int), (b : Int)⟩⟩, 0) := by unfold layS; rw [if_pos c]; exact if_neg c10
      rw [e3]
      obtain ⟨bd, _⟩ := best_props hok (a + b) a b (Nat.le_refl _) (by omega) (by omega) (by omega) (by omega)
      have har := area (show a ≤ 12 by omega) (show b ≤ 12 by omega)
      have b1 := bd.w1
      have lk := lay_ok hok 24 a b ⟨0, 0, (a : Int), (b : Int)⟩ (by omega) (by omega) (by omega) (by omega) (by omega) rfl rfl (Int.le_refl _) (Int.le_refl _)
      have hlen := lk.len
      generalize hl : layR ks 24 ⟨0, 0, (a : Int), (b : Int)⟩ = l at *
      have hv : checkS ⟨(a : Int), (b : Int), l⟩ = 0 := check_valid ⟨h1.1, h1.2⟩ ⟨h2.1, h2.2⟩ (by show l.length ≤ 10; omega) lk.fits lk.apart
      have hwo : worthS ⟨(a : Int), (b : Int), l⟩ ks = ((best ks a b).worth, 0) := by
        unfold worthS
        rw [if_pos hv, if_pos hok]
        show worthR (worthL ks l 0) = _
        rw [lk.worth 0 (Int.le_refl _) (by omega), Int.zero_add]; rfl
      have hpo : possS ⟨(a : Int), (b : Int), l⟩ = 0 := by
        have V := valid_of hv
        unfold possS
        rw [if_pos hv, if_pos]
        exact sep_plan _ _ _ ⟨V.small, V.fits⟩ (Nat.le_refl _) lk.sep
      have hl30 : (⟨(a : Int), (b : Int), l⟩ : Layout).Labels.length ≤ 30 := by show l.length ≤ 30; omega
      simp only [not_true_eq_false, decide_false, cond_false, decide_true, cond_true, c10, f5_c11, f14_eq (N := 61) hl30 (by omega), f18_eq hl30 hk (show 30 < 61 by omega), f23_eq hl30 (show 60 < 61 by omega), Option.bind_some, hwo, hpo, hw]
  · have e1 : bestS w h ks = (0, askedS w h ks) := by unfold bestS; rw [if_neg c]
    have e2 : mostS w h ks = (0, 0, askedS w h ks) := by unfold mostS; rw [if_neg c]
    have e3 : layS w h ks = (⟨0, 0, []⟩, askedS w h ks) := by unfold layS; rw [if_neg c]
    rw [e1, e2, e3]
    simp [c, f5_c11, hw]
end Go.Vc
/-
  The arguments of the laws of Cut, as data.
-/
namespace Go.Vc
set_option linter.unusedVariables false
set_option linter.unnecessarySimpa false
set_option linter.unusedSimpArgs false
abbrev tI : Ty := .int .i64
abbrev tB : Ty := .int .u8
def i64In (n : Int) : Prop := -9223372036854775808 ≤ n ∧ n ≤ 9223372036854775807
def u8In (n : Int) : Prop := 0 ≤ n ∧ n ≤ 255
theorem tI_of {ds : List D} (h : tI.has ds) : ∃ n, ds = [iN n] ∧ i64In n := by
  simp only [tI, Ty.has] at h
  obtain ⟨n, rfl, h⟩ := h
  exact ⟨n, rfl, by simpa [IntKind.min, IntKind.max, IntKind.signed, IntKind.bits, i64In] using h⟩
theorem tB_of {ds : List D} (h : tB.has ds) : ∃ n, ds = [u8N n] ∧ u8In n := by
  simp only [tB, Ty.has] at h
  obtain ⟨n, rfl, h⟩ := h
  exact ⟨n, rfl, by simpa [IntKind.min, IntKind.max, IntKind.signed, IntKind.bits, u8In] using h⟩
theorem bool_of {ds : List D} (h : Ty.bool.has ds) : ∃ b, ds = [bN b] := by
  simp only [Ty.has] at h; exact h
abbrev tLabel : Ty := .comp [tI, tI, tI, tI]
theorem Label.of {ds : List D} (h : tLabel.has ds) : ∃ x : Label, D.agg ds = x.d ∧ i64In x.X ∧ i64In x.Y ∧ i64In x.W ∧ i64In x.H := by
  simp only [tLabel, Ty.has, Ty.hasL] at h
  obtain ⟨a, b, rfl, h1, c, d, rfl, h2, e, f, rfl, h3, g, k, rfl, h4, rfl⟩ := h
  obtain ⟨x, rfl, p1⟩ := tI_of (by simpa only [tI, Ty.has] using h1)
  obtain ⟨y, rfl, p2⟩ := tI_of (by simpa only [tI, Ty.has] using h2)
  obtain ⟨z, rfl, p3⟩ := tI_of (by simpa only [tI, Ty.has] using h3)
  obtain ⟨w, rfl, p4⟩ := tI_of (by simpa only [tI, Ty.has] using h4)
  exact ⟨⟨x, y, z, w⟩, rfl, p1, p2, p3, p4⟩
abbrev tLabels : Ty := .slice tLabel true 4
theorem labels_of {ds : List D} (h : tLabels.has ds) : ∃ l, ds = [sl_Label l] := by
  obtain ⟨l, h, _, _⟩ := slice_of (fun cs hc => Label.of hc) h
  exact ⟨l, h⟩
abbrev tLayout : Ty := .comp [tI, tI, tLabels]
theorem Layout.of {x : D} (h : tLayout.hasD x) : ∃ a : Layout, x = a.d := by
  obtain ⟨cs, rfl, h⟩ := h
  simp only [Ty.hasL] at h
  obtain ⟨a, b, rfl, h1, c, d, rfl, h2, e, f, rfl, h3, rfl⟩ := h
  obtain ⟨x, rfl, p1⟩ := tI_of h1
  obtain ⟨y, rfl, p2⟩ := tI_of h2
  obtain ⟨l, rfl⟩ := labels_of h3
  exact ⟨⟨x, y, l⟩, rfl⟩
abbrev tKind : Ty := .comp [tI, tI, tI]
theorem Kind.of {ds : List D} (h : tKind.has ds) : ∃ x : Kind, D.agg ds = x.d ∧ True := by
  simp only [tKind, Ty.has, Ty.hasL] at h
  obtain ⟨a, b, rfl, h1, c, d, rfl, h2, e, f, rfl, h3, rfl⟩ := h
  obtain ⟨x, rfl, p1⟩ := tI_of (by simpa only [tI, Ty.has] using h1)
  obtain ⟨y, rfl, p2⟩ := tI_of (by simpa only [tI, Ty.has] using h2)
  obtain ⟨z, rfl, p3⟩ := tI_of (by simpa only [tI, Ty.has] using h3)
  exact ⟨⟨x, y, z⟩, rfl, trivial⟩
abbrev tKinds : Ty := .slice tKind true 3
theorem kinds_of {x : D} (h : tKinds.hasD x) : ∃ l, x = sl_Kind l := by
  obtain ⟨l, h, _, _⟩ := slice_of (fun cs hc => Kind.of hc) (hasD_slice h)
  exact ⟨l, List.head_eq_of_cons_eq h⟩
abbrev tCut : Ty := .comp [.bool, tI]
theorem Cut.of {ds : List D} (h : tCut.has ds) : ∃ x : Cut, D.agg ds = x.d ∧ True := by
  simp only [tCut, Ty.has, Ty.hasL] at h
  obtain ⟨a, b, rfl, h1, c, d, rfl, h2, rfl⟩ := h
  obtain ⟨x, rfl⟩ := h1
  obtain ⟨y, rfl, p2⟩ := tI_of (by simpa only [tI, Ty.has] using h2)
  exact ⟨⟨x, y⟩, rfl, trivial⟩
abbrev tCuts : Ty := .slice tCut true 2
theorem cuts_of {x : D} (h : tCuts.hasD x) : ∃ l, x = sl_Cut l := by
  obtain ⟨l, h, _, _⟩ := slice_of (fun cs hc => Cut.of hc) (hasD_slice h)
  exact ⟨l, List.head_eq_of_cons_eq h⟩
theorem int_of {x : D} (h : tI.hasD x) : ∃ n, x = iN n ∧ i64In n := by
  obtain ⟨n, h, p⟩ := tI_of h
  exact ⟨n, List.head_eq_of_cons_eq h, p⟩
theorem byte_of {x : D} (h : tB.hasD x) : ∃ n, x = u8N n ∧ u8In n := by
  obtain ⟨n, h, p⟩ := tB_of h
  exact ⟨n, List.head_eq_of_cons_eq h, p⟩
abbrev t4 : Ty := .comp [tB, tB, tB, tB]
def A4u8N.ok (x : A4u8N) : Prop := u8In x.e0 ∧ u8In x.e1 ∧ u8In x.e2 ∧ u8In x.e3
theorem A4.of {ds : List D} (h : t4.has ds) : ∃ x : A4u8N, D.agg ds = x.d ∧ x.ok := by
  simp only [t4, Ty.has, Ty.hasL] at h
  obtain ⟨a, b, rfl, h1, c, d, rfl, h2, e, f, rfl, h3, g, k, rfl, h4, rfl⟩ := h
  obtain ⟨x, rfl, p1⟩ := tB_of (by simpa only [tB, Ty.has] using h1)
  obtain ⟨y, rfl, p2⟩ := tB_of (by simpa only [tB, Ty.has] using h2)
  obtain ⟨z, rfl, p3⟩ := tB_of (by simpa only [tB, Ty.has] using h3)
  obtain ⟨w, rfl, p4⟩ := tB_of (by simpa only [tB, Ty.has] using h4)
  exact ⟨⟨x, y, z, w⟩, rfl, p1, p2, p3, p4⟩
theorem A4.ofD {x : D} (h : t4.hasD x) : ∃ a : A4u8N, x = a.d ∧ a.ok := by
  obtain ⟨cs, rfl, h⟩ := h
  exact A4.of (by simpa only [Ty.has] using h)
abbrev tPage : Ty := .comp [tB, tB, .slice t4 true 4]
def Page.ok (p : Page) : Prop := u8In p.W ∧ u8In p.H ∧ (∀ x, x ∈ p.Labels → x.ok) ∧ p.Labels.length ≤ maxLen
theorem Page.of {x : D} (h : tPage.hasD x) : ∃ a : Page, x = a.d ∧ a.ok := by
  obtain ⟨cs, rfl, h⟩ := h
  simp only [Ty.hasL] at h
  obtain ⟨a, b, rfl, h1, c, d, rfl, h2, e, f, rfl, h3, rfl⟩ := h
  obtain ⟨x, rfl, p1⟩ := tB_of h1
  obtain ⟨y, rfl, p2⟩ := tB_of h2
  obtain ⟨l, rfl, p4, p3⟩ := slice_of (fun cs hc => A4.of hc) h3
  exact ⟨⟨x, y, l⟩, rfl, p1, p2, p3, p4⟩
abbrev t2 : Ty := .comp [tB, tB]
def A2u8N.ok (x : A2u8N) : Prop := u8In x.e0 ∧ u8In x.e1
theorem A2.of {ds : List D} (h : t2.has ds) : ∃ x : A2u8N, D.agg ds = x.d ∧ x.ok := by
  simp only [t2, Ty.has, Ty.hasL] at h
  obtain ⟨a, b, rfl, h1, c, d, rfl, h2, rfl⟩ := h
  obtain ⟨x, rfl, p1⟩ := tB_of (by simpa only [tB, Ty.has] using h1)
  obtain ⟨y, rfl, p2⟩ := tB_of (by simpa only [tB, Ty.has] using h2)
  exact ⟨⟨x, y⟩, rfl, p1, p2⟩
theorem A2.ofD {x : D} (h : t2.hasD x) : ∃ a : A2u8N, x = a.d ∧ a.ok := by
  obtain ⟨cs, rfl, h⟩ := h
  exact A2.of (by simpa only [Ty.has] using h)
theorem A2.list {x : D} (h : (Ty.slice t2 true 2).hasD x) : ∃ l, x = sl_A2u8N l ∧ ∀ y, y ∈ l → y.ok := by
  obtain ⟨l, h, _, p⟩ := slice_of (fun cs hc => A2.of hc) (hasD_slice h)
  exact ⟨l, List.head_eq_of_cons_eq h, p⟩
abbrev t3 : Ty := .comp [tB, tB, tB]
def A3u8N.ok (x : A3u8N) : Prop := u8In x.e0 ∧ u8In x.e1 ∧ u8In x.e2
theorem A3.of {ds : List D} (h : t3.has ds) : ∃ x : A3u8N, D.agg ds = x.d ∧ x.ok := by
  simp only [t3, Ty.has, Ty.hasL] at h
  obtain ⟨a, b, rfl, h1, c, d, rfl, h2, e, f, rfl, h3, rfl⟩ := h
  obtain ⟨x, rfl, p1⟩ := tB_of (by simpa only [tB, Ty.has] using h1)
  obtain ⟨y, rfl, p2⟩ := tB_of (by simpa only [tB, Ty.has] using h2)
  obtain ⟨z, rfl, p3⟩ := tB_of (by simpa only [tB, Ty.has] using h3)
  exact ⟨⟨x, y, z⟩, rfl, p1, p2, p3⟩
theorem A3.ofD {x : D} (h : t3.hasD x) : ∃ a : A3u8N, x = a.d ∧ a.ok := by
  obtain ⟨cs, rfl, h⟩ := h
  exact A3.of (by simpa only [Ty.has] using h)
theorem A3.list {x : D} (h : (Ty.slice t3 true 3).hasD x) : ∃ l, x = sl_A3u8N l ∧ ∀ y, y ∈ l → y.ok := by
  obtain ⟨l, h, _, p⟩ := slice_of (fun cs hc => A3.of hc) (hasD_slice h)
  exact ⟨l, List.head_eq_of_cons_eq h, p⟩
end Go.Vc

/-
  A library for proofs about Go functions by symbolic evaluation, and plain Lean functions that the walked Go functions compute (written by a program of this claim).
-/
import Derived.Test.YtnbefdolkolaiaaW1
import Derived.Test.YtnbefdolkolaiaaW2
namespace Go.Vc
open Go.Proofs
set_option linter.unusedVariables false
set_option linter.unnecessarySimpa false
set_option linter.unusedSimpArgs false
section
variable {c : Ctx} {p nid : Nat} {a b : Code} {st : St} {K : Ex → St → Prop}
/- f59: tusche/repeat.Join$1 -/
def f59 (N : Nat) (a0 : ByteArray) (a1 : ByteArray) : Option (Int) :=
 some (W ((ByteArray.size a1 : Int) - (ByteArray.size a0 : Int)))
def G59 (ds : List D) (d : D) : Prop := ∃ (N : Nat) (a0 : ByteArray) (a1 : ByteArray) (r : Int), ds = [strN a0, strN a1] ∧ f59 N a0 a1 = some r ∧ d = iN r
theorem G59.lend {N : Nat} {a0 : ByteArray} {a1 : ByteArray} {ρ : Type} {A : Int → Option ρ} {q : ρ} {ds : List D} {K : D → Prop} (hd : ds = [strN a0, strN a1]) (h : ∀ r, A r = some q → K (iN r)) (hF : (f59 N a0 a1).bind A = some q) : ∃ d, (G59 ds d ∧ d.flatB = true) ∧ K d := by
  obtain ⟨r, hr, hA⟩ := bind_some hF
  exact ⟨_, ⟨⟨N, a0, a1, r, hd, hr, rfl⟩, rfl⟩, h r hA⟩
theorem G59.step {N : Nat} {a0 : ByteArray} {a1 : ByteArray} {ρ : Type} {A : Int → Option ρ} {q : ρ} {ds : List D} {K : D → Prop} (hd : ds = [strN a0, strN a1]) (h : ∀ r, A r = some q → K (iN r)) (hF : (f59 N a0 a1).bind A = some q) : ∃ d, G59 ds d ∧ K d := by
  obtain ⟨r, hr, hA⟩ := bind_some hF
  exact ⟨_, ⟨N, a0, a1, r, hd, hr, rfl⟩, h r hA⟩
set_option maxRecDepth 20000 in
set_option maxHeartbeats 4000000 in
theorem P59 : PureOK Try.prog 59 G59 := by
  refine pure_of_vc (c := mkCtx tyTree []) rfl tyOK (ctx_nil) [[0]] 2 Try.func59 rfl rfl (by decide) (by kernel_rfl) ?_
  rintro ds d ⟨N, a0, a1, r, rfl, hF, rfl⟩ hok
  clear hok
  refine ⟨rfl, ?_⟩
  show vc _ _ _ _ ⟨[(0, .dat (strN a0)), (1, .dat (strN a1))], []⟩ _
  unfold f59 at hF
  repeat' (first
    | ((with_reducible first | refine q0 _ _ ?_ | refine q1 _ _ _ _ ?_ | refine q2 _ _ _ ?_); clear Q q0 q1 q2)
    | ((with_reducible first | refine seq_op ?hx (fun Q q0 q1 q2 => ?_)); (case hx => exact rfl); conv => whnf)
    | ((with_reducible refine seq_nil ?_); (first | ((with_reducible refine hR _ ?_); clear R hR) | ((with_reducible refine hL _ ?_); clear L hL)))
    | ((with_reducible first | refine int_step ?_); conv => whnf)
    | (with_reducible first | refine vc_skip ?_ | refine vc_ret ?_ | refine vc_region (fun R hR => ?_) | refine k_seq_ret ?_)
    | ((with_reducible refine vc_seqN [] ?hx ?_); (case hx => exact rfl))
    | ((refine row_all ?hn ?_); (case hn => first | exact rfl | (simp; done) | (simp; omega)); conv => whnf)
    | ((with_reducible refine le_step ?hn ?_); (case hn => first | exact rfl | assumption | omega); conv => whnf)
    | ((refine ⟨?hx, ?_⟩); (case hx => exact ⟨rfl, Nat.le_of_ble_eq_true rfl, rfl⟩); conv => whnf)
    | ((with_reducible refine ex_step ?_); conv => whnf)
    | ((with_reducible refine both_T ?hx ?_); (case hx => first | exact rfl | assumption | exact notT (by assumption)); conv => whnf)
    | ((with_reducible refine both_F ?hx ?_); (case hx => first | exact rfl | assumption | exact notF (by assumption)); conv => whnf)
    | (revert hF; (with_reducible refine ite_step ?_ ?_) <;> (intro hc hF; conv => whnf))
    | (show retD _ _ _ _ _ _; conv => whnf)
    | ((refine ⟨?hx, trivial⟩); (case hx => (cases hF; exact rfl)))
    | ((refine ⟨?hx, ?_⟩); (case hx => decide); conv => whnf)
    | with_reducible refine k_seq ?_
    | (have hF : (none : Option _) = some _ := hF; cases hF))
end
end Go.Vc
namespace Go.Vc
open Go.Proofs
set_option linter.unusedVariables false
set_option linter.unnecessarySimpa false
set_option linter.unusedSimpArgs false
section
variable {c : Ctx} {p nid : Nat} {a b : Code} {st : St} {K : Ex → St → Prop}
/- f86: slices.insertionSortCmpFunc[string] -/
def f86_c2 (s0 : Int) (s1 : Int) (i8' : Int) (r1 : Int → (List ByteArray) → Option ((List ByteArray))) (b0' : List ByteArray) : Option ((List ByteArray)) :=
 r1 (W ((i8') + (1 : Int))) (b0')
def Lf86_c2 (s0 : Int) (s1 : Int) (i8' : Int) (r1 : Int → (List ByteArray) → Option ((List ByteArray))) : Lp ((List ByteArray)) (Nat) ((List ByteArray)) := ⟨⟨[0, 1, 2, 3, 8], [0], [], []⟩, fun b0' => [.rs 0 (List.length (b0')), .dat (iN s0), .dat (iN s1), .dat (.v (.func (.func 59) #[] #[])), .dat (iN (i8'))], fun b0' => [.row 9 1 (List.map strN (b0'))], fun b0' => f86_c2 s0 s1 i8' r1 b0', fun _ m0 => [.rs 0 m0, .dat (iN s0), .dat (iN s1), .dat (.v (.func (.func 59) #[] #[])), .dat (iN (i8'))], fun b0' _ => [.row 9 1 (List.map strN (b0'))], fun b0' => List.length (b0'), fun _ => rfl, fun _ => rfl⟩
theorem Ef86_c2 {s0 s1 i8' r1 b0'} : (Lf86_c2 s0 s1 i8' r1).E b0' = f86_c2 s0 s1 i8' r1 b0' := rfl
def f86_4b (r4 : Int → (List ByteArray) → Option ((List ByteArray))) (s0 : Int) (s1 : Int) (N : Nat) (i8' : Int) (k0 : (List ByteArray) → Option ((List ByteArray))) (j9 : Int) (b0' : List ByteArray) : Option ((List ByteArray)) :=
 bif decide (s0 < j9) then ((ix (b0') j9).bind fun x1 =>
 (ix (b0') (W (j9 - (1 : Int)))).bind fun x2 =>
 (f59 N x1 x2).bind fun x3 =>
 bif decide (x3 < (0 : Int)) then ((ix (b0') (W (j9 - (1 : Int)))).bind fun x4 =>
 (ix (b0') j9).bind fun x5 =>
 (ix (b0') j9).bind fun x6 =>
 (setx (b0') j9 x4).bind fun x7 =>
 (ix x7 (W (j9 - (1 : Int)))).bind fun x8 =>
 (setx x7 (W (j9 - (1 : Int))) x5).bind fun x9 =>
 r4 (W (j9 - (1 : Int))) x9)
 else (k0 (b0')))
 else (k0 (b0'))
def f86_4 (s0 : Int) (s1 : Int) (N : Nat) (i8' : Int) (k0 : (List ByteArray) → Option ((List ByteArray))) : Nat → Int → (List ByteArray) → Option ((List ByteArray))
  | 0, _, _ => none
  | n + 1, j9, b0' => f86_4b (f86_4 s0 s1 N i8' k0 n) s0 s1 N i8' k0 j9 b0'
def Lf86_4 (s0 : Int) (s1 : Int) (N : Nat) (i8' : Int) (k0 : (List ByteArray) → Option ((List ByteArray))) : Lp (Nat × Int × (List ByteArray)) (Nat) ((List ByteArray)) := ⟨⟨[0, 1, 2, 3, 8, 9], [0], [], []⟩, fun (_, j9, b0') => [.rs 0 (List.length (b0')), .dat (iN s0), .dat (iN s1), .dat (.v (.func (.func 59) #[] #[])), .dat (iN (i8')), .dat (iN j9)], fun (_, _, b0') => [.row 9 1 (List.map strN (b0'))], fun (n, j9, b0') => f86_4 s0 s1 N i8' k0 n j9 b0', fun (_, j9, _) m0 => [.rs 0 m0, .dat (iN s0), .dat (iN s1), .dat (.v (.func (.func 59) #[] #[])), .dat (iN (i8')), .dat (iN j9)], fun (_, _, b0') _ => [.row 9 1 (List.map strN (b0'))], fun (_, _, b0') => List.length (b0'), fun _ => rfl, fun _ => rfl⟩
theorem Ef86_4 {s0 s1 N i8' k0 n j9 b0'} : (Lf86_4 s0 s1 N i8' k0).E (n, j9, b0') = f86_4 s0 s1 N i8' k0 n j9 b0' := rfl
def f86_1b (r1 : Int → (List ByteArray) → Option ((List ByteArray))) (s0 : Int) (s1 : Int) (N : Nat) (i8' : Int) (b0 : List ByteArray) : Option ((List ByteArray)) :=
 bif decide ((i8') < s1) then (joinK (f86_c2 s0 s1 i8' r1) fun k0 =>
 f86_4 s0 s1 N i8' k0 N (i8') b0)
 else (some (b0))
def f86_1 (s0 : Int) (s1 : Int) (N : Nat) : Nat → Int → (List ByteArray) → Option ((List ByteArray))
  | 0, _, _ => none
  | n + 1, i8', b0 => f86_1b (f86_1 s0 s1 N n) s0 s1 N i8' b0
def Lf86_1 (s0 : Int) (s1 : Int) (N : Nat) : Lp (Nat × Int × (List ByteArray)) (Nat) ((List ByteArray)) := ⟨⟨[0, 1, 2, 3, 8], [0], [], []⟩, fun (_, i8', b0) => [.rs 0 (List.length b0), .dat (iN s0), .dat (iN s1), .dat (.v (.func (.func 59) #[] #[])), .dat (iN (i8'))], fun (_, _, b0) => [.row 9 1 (List.map strN b0)], fun (n, i8', b0) => f86_1 s0 s1 N n i8' b0, fun (_, i8', _) m0 => [.rs 0 m0, .dat (iN s0), .dat (iN s1), .dat (.v (.func (.func 59) #[] #[])), .dat (iN (i8'))], fun (_, _, b0) _ => [.row 9 1 (List.map strN b0)], fun (_, _, b0) => List.length b0, fun _ => rfl, fun _ => rfl⟩
theorem Ef86_1 {s0 s1 N n i8' b0} : (Lf86_1 s0 s1 N).E (n, i8', b0) = f86_1 s0 s1 N n i8' b0 := rfl
def f86b (self : Int → Int → (List ByteArray) → Option ((List ByteArray))) (N : Nat) (s0 : Int) (s1 : Int) (s2 : List ByteArray) : Option ((List ByteArray)) :=
 f86_1 s0 s1 N N (W (s0 + (1 : Int))) s2
def f86 : Nat → Int → Int → (List ByteArray) → Option ((List ByteArray))
  | 0, _, _, _ => none
  | N + 1, s0, s1, s2 => f86b (f86 N) N s0 s1 s2
def Af86 (s0 : Int) (s1 : Int) (s2 : List ByteArray) : List SV := [.rs 0 (List.length s2), .dat (iN s0), .dat (iN s1), .dat (.v (.func (.func 59) #[] #[]))]
def Bf86 (s0 : Int) (s1 : Int) (s2 : List ByteArray) : List Blk := [.row 9 1 (List.map strN s2)]
def Rf86 (y : (List ByteArray)) : List SV := []
def B1f86 (s0 : Int) (s1 : Int) (s2 : List ByteArray) (y : (List ByteArray)) : List Blk := [.row 9 1 (List.map strN y)]
def BZf86 (y : (List ByteArray)) : Blk := .unborn
def Spf86 : Spec (Int × Int × (List ByteArray)) ((List ByteArray)) := ⟨1, fun x => Af86 x.1 x.2.1 x.2.2, fun x => Bf86 x.1 x.2.1 x.2.2, fun _ y => Rf86 y, fun x y => B1f86 x.1 x.2.1 x.2.2 y, fun _ y => BZf86 y⟩
def H86 (N : Nat) (x : Int × Int × (List ByteArray)) (y : (List ByteArray)) : Prop := f86 N x.1 x.2.1 x.2.2 = some y
def G86 (x : Int × Int × (List ByteArray)) (y : (List ByteArray)) : Prop := ∃ N, H86 N x y
theorem H86.step {N : Nat} {s0 : Int} {s1 : Int} {s2 : List ByteArray} {m0 : Nat} {ρ : Type} {A : (List ByteArray) → Option ρ} {q : ρ} {xs : List SV} {id : Nat} {m : Nat → Blk} {l : List Loc} {K : Dl → List Loc → Prop} {k0 : Nat} (ha : xs = [.rs k0 m0, .dat (iN s0), .dat (iN s1), .dat (.v (.func (.func 59) #[] #[]))]) (b0 : m k0 = .row 9 1 (List.map strN s2)) (em0 : m0 = List.length s2) (hu : m id = .unborn) (hn : nodupB [k0] = true) (h : ∀ y, A y = some q → K ⟨.tup [], [(k0, .row 9 1 (List.map strN y)), (id, .unborn)]⟩ l) (hF : (f86 N s0 s1 s2).bind A = some q) : effPg Spf86 (H86 N) xs id (fun _ => SV.no) m l K := by
  subst em0; obtain ⟨y, hy, hA⟩ := bind_some hF
  exact eff_step [k0] (s0, s1, s2) y _ hy rfl hn ha (by simp only [List.map_cons, List.map_nil, b0]; rfl) hu rfl rfl (h y hA)
theorem G86.step {N : Nat} {s0 : Int} {s1 : Int} {s2 : List ByteArray} {m0 : Nat} {ρ : Type} {A : (List ByteArray) → Option ρ} {q : ρ} {xs : List SV} {id : Nat} {m : Nat → Blk} {l : List Loc} {K : Dl → List Loc → Prop} {k0 : Nat} (ha : xs = [.rs k0 m0, .dat (iN s0), .dat (iN s1), .dat (.v (.func (.func 59) #[] #[]))]) (b0 : m k0 = .row 9 1 (List.map strN s2)) (em0 : m0 = List.length s2) (hu : m id = .unborn) (hn : nodupB [k0] = true) (h : ∀ y, A y = some q → K ⟨.tup [], [(k0, .row 9 1 (List.map strN y)), (id, .unborn)]⟩ l) (hF : (f86 N s0 s1 s2).bind A = some q) : effPg Spf86 (G86) xs id (fun _ => SV.no) m l K := by
  subst em0; obtain ⟨y, hy, hA⟩ := bind_some hF
  exact eff_step [k0] (s0, s1, s2) y _ ⟨N, hy⟩ rfl hn ha (by simp only [List.map_cons, List.map_nil, b0]; rfl) hu rfl rfl (h y hA)
def Srf86 : Ann := ⟨[], [0, 500], [], []⟩
set_option maxRecDepth 20000 in
set_option maxHeartbeats 4000000 in
theorem Q86 (N : Nat) : CallOK Try.prog 86 (effPg Spf86 (H86 N)) := by
  induction N with
  | zero => exact eff_none fun x y h => (by cases (show (none : Option ((List ByteArray))) = some y from h))
  | succ N ih =>
    refine eff_of_vc (c := mkCtx tyTree [(86, false, effPg Spf86 (H86 N)), (59, true, lendPg [[0], [0]] G59)]) rfl tyOK (ctx_eff (callable Try.func86 rfl rfl) ih (ctx_lend (callable Try.func59 rfl rfl) P59 (ctx_nil))) 1000 500 Srf86 Try.func86 rfl rfl (by kernel_rfl) rfl rfl rfl rfl rfl (fun _ => rfl) (fun _ => rfl) (fun _ _ => ⟨rfl, rfl⟩) ?_
    rintro ⟨s0, s1, s2⟩ y hF
    have hF : f86b (f86 N) N s0 s1 s2 = some y := hF
    show vc _ _ _ _ ⟨[(0, .rs 0 (List.length s2)), (1, .dat (iN s0)), (2, .dat (iN s1)), (3, .dat (.v (.func (.func 59) #[] #[])))], [(0, .row 9 1 (List.map strN s2))]⟩ _
    unfold f86b at hF
    repeat' (first
      | ((with_reducible first | refine q0 _ _ ?_ | refine q1 _ _ _ _ ?_ | refine q2 _ _ _ ?_); clear Q q0 q1 q2)
      | ((with_reducible first | refine seq_op ?hx (fun Q q0 q1 q2 => ?_) | refine draw_op ?hx (fun Q q0 q1 q2 => ?_) | refine seq_op0 ?hx (fun Q q0 q1 q2 => ?_) | refine draw_op0 ?hx (fun Q q0 q1 q2 => ?_)); (case hx => exact rfl); conv => whnf)
      | ((with_reducible first | refine seq_off ?hx ?_ | refine seq_off0 ?hx ?_ | refine draw_off ?hx ?_ | refine draw_off0 ?hx ?_ | refine k_blk_out ?hx ?_ | refine vc_condT ?hx ?_); (case hx => exact rfl))
      | ((with_reducible refine draw_id ?_); (first | ((first | refine draw_opK rfl ?hy (fun Q q0 q1 q2 => ?_) | refine draw_opK0 rfl ?hy (fun Q q0 q1 q2 => ?_)); (case hy => first | assumption | exact notT (by assumption) | exact rfl); conv => whnf) | ((first | refine draw_offK rfl ?hy ?_ | refine draw_offK0 rfl ?hy ?_); (case hy => first | assumption | exact notF (by assumption) | exact rfl)) | (revert hF; (with_reducible first | refine draw_opF ?hx ?_ ?_ | refine draw_opF0 ?hx ?_ ?_); (case hx => exact rfl); (intro hc hF Q q0 q1 q2; conv => whnf); rotate_left; (intro hc hF); rotate_right) | (revert hF; (with_reducible first | refine draw_opN ?hx ?_ ?_ | refine draw_opN0 ?hx ?_ ?_); (case hx => exact rfl); (intro hc hF); rotate_left; (intro hc hF Q q0 q1 q2; conv => whnf); rotate_right)))
      | ((with_reducible refine cond_id ?_); (first | ((refine condKT rfl ?hy ?_); (case hy => first | assumption | exact notT (by assumption) | exact rfl)) | ((refine condKF rfl ?hy ?_); (case hy => first | assumption | exact notF (by assumption) | exact rfl)) | (revert hF; (with_reducible refine condF ?hx ?_ ?_); (case hx => exact rfl); all_goals (intro hc hF))))
      | ((with_reducible refine seq_nil ?_); (first | ((with_reducible refine hR _ ?_); clear R hR) | ((with_reducible refine hL _ ?_); clear L hL)))
      | ((with_reducible refine draw_nil ?_); (with_reducible refine hR _ _ ?hx ?_); (case hx => kernel_rfl); (first | clear R hR | clear hR))
      | ((with_reducible first | refine int_step ?_ | refine len_step ?_ | refine idx2 (by assumption) ?_ | refine idx3 (by assumption) ?_); conv => whnf)
      | (with_reducible first | refine vc_block ?_ | refine vc_skip ?_ | refine vc_ret ?_ | refine vc_exit ?_ | refine vc_region (fun R hR => ?_) | refine k_seq_ret ?_ | refine k_seq_exit ?_ | refine k_blk ?_ | refine k_blk_ret ?_ | refine k_blk_here ?_ | refine k_loop_ret ?_ | refine k_loop_exit ?_)
      | ((with_reducible refine vc_seqN [1000002] ?hx ?_); (case hx => exact rfl))
      | ((with_reducible refine vc_draw ?hx (fun R hR => ?_)); (case hx => exact rfl))
      | (revert hF; (refine Lp.cut4 Lf86_c2 f86_c2 1000002 rfl rfl ?_ ?_); (intro hF); rotate_left; (rintro b0' hF; dsimp only [Lf86_c2] at hF; unfold f86_c2 at hF); rotate_right)
      | exact Lp.head Ef86_c2 hF _ ⟨_, rfl, rfl, rfl, rfl⟩ (by first | exact rfl | ((try dsimp only [Lf86_c2]); first | assumption | omega | (simp only [List.length_set]; done)))
      | (revert hF; (refine Lp.loop Ef86_4 _ rfl ⟨_, rfl, rfl, rfl, rfl⟩ (by first | exact rfl | ((try dsimp only [Lf86_4]); first | assumption | omega | (simp only [List.length_set]; done))) (fun _ => rfl) ?_); rintro n ⟨j9, b0'⟩ hF; dsimp only [Lf86_4, f86_4] at hF; unfold f86_4b at hF)
      | exact Lp.back Ef86_4 hF _ ⟨_, rfl, rfl, rfl, rfl⟩ (by first | exact rfl | ((try dsimp only [Lf86_4]); first | assumption | omega | (simp only [List.length_set]; done)))
      | (revert hF; (refine Lp.loop Ef86_1 _ rfl ⟨_, rfl, rfl, rfl, rfl⟩ (by first | exact rfl | ((try dsimp only [Lf86_1]); first | assumption | omega | (simp only [List.length_set]; done))) (fun _ => rfl) ?_); rintro n ⟨i8', b0⟩ hF; dsimp only [Lf86_1, f86_1] at hF; unfold f86_1b at hF)
      | exact Lp.back Ef86_1 hF _ ⟨_, rfl, rfl, rfl, rfl⟩ (by first | exact rfl | ((try dsimp only [Lf86_1]); first | assumption | omega | (simp only [List.length_set]; done)))
      | (revert hF; (with_reducible refine G59.lend ?hx ?_); (case hx => exact rfl); intro v hF; conv => whnf)
      | (revert hF; (refine H86.step rfl rfl (by first | exact rfl | assumption | omega | (simp only [List.length_set]; done)) rfl ?hn ?_); (case hn => exact rfl); intro v hF; conv => whnf)
      | (show retE _ _ _ _ _ _; conv => whnf)
      | (cases hF; exact ⟨rfl, rfl, rfl⟩)
      | (revert hF; (with_reducible refine idx1 ?hn ?_); (case hn => first | exact rfl | exact (List.length_map _) | assumption | omega | simp); intro x hx hF; conv => whnf)
      | ((refine row_all ?hn ?_); (case hn => first | exact rfl | (simp; done) | (simp; omega)); conv => whnf)
      | ((with_reducible refine le_step ?hn ?_); (case hn => first | exact rfl | assumption | omega); conv => whnf)
      | ((with_reducible have hG := setx_fact hF); clear hF; (refine setx_step hG ?hs (fun q hl hF => ?_)); (case hs => exact rfl); clear hG; conv => whnf)
      | ((refine ⟨?hx, ?_⟩); (case hx => exact ⟨rfl, Nat.le_of_ble_eq_true rfl, rfl⟩); conv => whnf)
      | ((with_reducible refine ex_step ?_); conv => whnf)
      | ((with_reducible refine both_T ?hx ?_); (case hx => first | exact rfl | assumption | exact notT (by assumption)); conv => whnf)
      | ((with_reducible refine both_F ?hx ?_); (case hx => first | exact rfl | assumption | exact notF (by assumption)); conv => whnf)
      | (revert hF; (with_reducible refine ite_step ?_ ?_) <;> (intro hc hF; conv => whnf))
      | ((with_reducible refine vc_condF ?hx ?_); (case hx => exact rfl))
      | (show retD _ _ _ _ _ _; conv => whnf)
      | ((refine ⟨?hx, trivial⟩); (case hx => (cases hF; exact rfl)))
      | ((refine ⟨?hx, ?_⟩); (case hx => decide); conv => whnf)
      | with_reducible refine k_seq ?_
      | (have hF : (none : Option _) = some _ := hF; cases hF))
theorem P86 : CallOK Try.prog 86 (effPg Spf86 G86) := eff_ex Q86
end
end Go.Vc
namespace Go.Vc
open Go.Proofs
set_option linter.unusedVariables false
set_option linter.unnecessarySimpa false
set_option linter.unusedSimpArgs false
section
variable {c : Ctx} {p nid : Nat} {a b : Code} {st : St} {K : Ex → St → Prop}
/- f73: slices.pdqsortCmpFunc[string] -/
def f73_2b (r2 : Int → Int → Int → Bool → Bool → Option ((List ByteArray))) (s3 : List ByteArray) (N : Nat) (v1 : Int) (v2 : Int) (v3 : Int) (v10 : Bool) (v11 : Bool) : Option ((List ByteArray)) :=
 bif decide ((W (v2 - v1)) ≤ (12 : Int)) then ((f86 N v1 v2 s3).bind fun x1 =>
 (keepL s3 x1).bind fun x2 =>
 some (x2))
 else (bif decide (v3 = (0 : Int)) then none
 else (bif !v10 then none
 else none))
def f73_2 (s3 : List ByteArray) (N : Nat) : Nat → Int → Int → Int → Bool → Bool → Option ((List ByteArray))
  | 0, _, _, _, _, _ => none
  | n + 1, v1, v2, v3, v10, v11 => f73_2b (f73_2 s3 N n) s3 N v1 v2 v3 v10 v11
def Lf73_2 (s3 : List ByteArray) (N : Nat) : Lp (Nat × Int × Int × Int × Bool × Bool) (Nat) ((List ByteArray)) := ⟨⟨[0, 1, 2, 3, 4, 10, 11], [0], [], []⟩, fun (_, v1, v2, v3, v10, v11) => [.rs 0 (List.length s3), .dat (iN v1), .dat (iN v2), .dat (iN v3), .dat (.v (.func (.func 59) #[] #[])), .kb v10, .kb v11], fun (_, _, _, _, _, _) => [.row 9 1 (List.map strN s3)], fun (n, v1, v2, v3, v10, v11) => f73_2 s3 N n v1 v2 v3 v10 v11, fun (_, v1, v2, v3, v10, v11) m0 => [.rs 0 m0, .dat (iN v1), .dat (iN v2), .dat (iN v3), .dat (.v (.func (.func 59) #[] #[])), .kb v10, .kb v11], fun (_, _, _, _, _, _) _ => [.row 9 1 (List.map strN s3)], fun (_, _, _, _, _, _) => List.length s3, fun _ => rfl, fun _ => rfl⟩
theorem Ef73_2 {s3 N n v1 v2 v3 v10 v11} : (Lf73_2 s3 N).E (n, v1, v2, v3, v10, v11) = f73_2 s3 N n v1 v2 v3 v10 v11 := rfl
def f73b (self : Int → Int → Int → (List ByteArray) → Option ((List ByteArray))) (N : Nat) (s0 : Int) (s1 : Int) (s2 : Int) (s3 : List ByteArray) : Option ((List ByteArray)) :=
 f73_2 s3 N N s0 s1 s2 true true
def f73 : Nat → Int → Int → Int → (List ByteArray) → Option ((List ByteArray))
  | 0, _, _, _, _ => none
  | N + 1, s0, s1, s2, s3 => f73b (f73 N) N s0 s1 s2 s3
def Af73 (s0 : Int) (s1 : Int) (s2 : Int) (s3 : List ByteArray) : List SV := [.rs 0 (List.length s3), .dat (iN s0), .dat (iN s1), .dat (iN s2), .dat (.v (.func (.func 59) #[] #[]))]
def Bf73 (s0 : Int) (s1 : Int) (s2 : Int) (s3 : List ByteArray) : List Blk := [.row 9 1 (List.map strN s3)]
def Rf73 (y : (List ByteArray)) : List SV := []
def B1f73 (s0 : Int) (s1 : Int) (s2 : Int) (s3 : List ByteArray) (y : (List ByteArray)) : List Blk := [.row 9 1 (List.map strN y)]
def BZf73 (y : (List ByteArray)) : Blk := .unborn
def Spf73 : Spec (Int × Int × Int × (List ByteArray)) ((List ByteArray)) := ⟨1, fun x => Af73 x.1 x.2.1 x.2.2.1 x.2.2.2, fun x => Bf73 x.1 x.2.1 x.2.2.1 x.2.2.2, fun _ y => Rf73 y, fun x y => B1f73 x.1 x.2.1 x.2.2.1 x.2.2.2 y, fun _ y => BZf73 y⟩
def H73 (N : Nat) (x : Int × Int × Int × (List ByteArray)) (y : (List ByteArray)) : Prop := f73 N x.1 x.2.1 x.2.2.1 x.2.2.2 = some y
def G73 (x : Int × Int × Int × (List ByteArray)) (y : (List ByteArray)) : Prop := ∃ N, H73 N x y
theorem H73.step {N : Nat} {s0 : Int} {s1 : Int} {s2 : Int} {s3 : List ByteArray} {m0 : Nat} {ρ : Type} {A : (List ByteArray) → Option ρ} {q : ρ} {xs : List SV} {id : Nat} {m : Nat → Blk} {l : List Loc} {K : Dl → List Loc → Prop} {k0 : Nat} (ha : xs = [.rs k0 m0, .dat (iN s0), .dat (iN s1), .dat (iN s2), .dat (.v (.func (.func 59) #[] #[]))]) (b0 : m k0 = .row 9 1 (List.map strN s3)) (em0 : m0 = List.length s3) (hu : m id = .unborn) (hn : nodupB [k0] = true) (h : ∀ y, A y = some q → K ⟨.tup [], [(k0, .row 9 1 (List.map strN y)), (id, .unborn)]⟩ l) (hF : (f73 N s0 s1 s2 s3).bind A = some q) : effPg Spf73 (H73 N) xs id (fun _ => SV.no) m l K := by
  subst em0; obtain ⟨y, hy, hA⟩ := bind_some hF
  exact eff_step [k0] (s0, s1, s2, s3) y _ hy rfl hn ha (by simp only [List.map_cons, List.map_nil, b0]; rfl) hu rfl rfl (h y hA)
theorem G73.step {N : Nat} {s0 : Int} {s1 : Int} {s2 : Int} {s3 : List ByteArray} {m0 : Nat} {ρ : Type} {A : (List ByteArray) → Option ρ} {q : ρ} {xs : List SV} {id : Nat} {m : Nat → Blk} {l : List Loc} {K : Dl → List Loc → Prop} {k0 : Nat} (ha : xs = [.rs k0 m0, .dat (iN s0), .dat (iN s1), .dat (iN s2), .dat (.v (.func (.func 59) #[] #[]))]) (b0 : m k0 = .row 9 1 (List.map strN s3)) (em0 : m0 = List.length s3) (hu : m id = .unborn) (hn : nodupB [k0] = true) (h : ∀ y, A y = some q → K ⟨.tup [], [(k0, .row 9 1 (List.map strN y)), (id, .unborn)]⟩ l) (hF : (f73 N s0 s1 s2 s3).bind A = some q) : effPg Spf73 (G73) xs id (fun _ => SV.no) m l K := by
  subst em0; obtain ⟨y, hy, hA⟩ := bind_some hF
  exact eff_step [k0] (s0, s1, s2, s3) y _ ⟨N, hy⟩ rfl hn ha (by simp only [List.map_cons, List.map_nil, b0]; rfl) hu rfl rfl (h y hA)
def Srf73 : Ann := ⟨[], [0, 500], [], []⟩
set_option maxRecDepth 20000 in
set_option maxHeartbeats 4000000 in
theorem Q73 (N : Nat) : CallOK Try.prog 73 (effPg Spf73 (H73 N)) := by
  induction N with
  | zero => exact eff_none fun x y h => (by cases (show (none : Option ((List ByteArray))) = some y from h))
  | succ N ih =>
    refine eff_of_vc (c := mkCtx tyTree [(73, false, effPg Spf73 (H73 N)), (86, false, effPg Spf86 G86)]) rfl tyOK (ctx_eff (callable Try.func73 rfl rfl) ih (ctx_eff (callable Try.func86 rfl rfl) P86 (ctx_nil))) 1000 500 Srf73 Try.func73 rfl rfl (by kernel_rfl) rfl rfl rfl rfl rfl (fun _ => rfl) (fun _ => rfl) (fun _ _ => ⟨rfl, rfl⟩) ?_
    rintro ⟨s0, s1, s2, s3⟩ y hF
    have hF : f73b (f73 N) N s0 s1 s2 s3 = some y := hF
    show vc _ _ _ _ ⟨[(0, .rs 0 (List.length s3)), (1, .dat (iN s0)), (2, .dat (iN s1)), (3, .dat (iN s2)), (4, .dat (.v (.func (.func 59) #[] #[])))], [(0, .row 9 1 (List.map strN s3))]⟩ _
    unfold f73b at hF
    repeat' (first
      | ((with_reducible first | refine q0 _ _ ?_ | refine q1 _ _ _ _ ?_ | refine q2 _ _ _ ?_); clear Q q0 q1 q2)
      | ((with_reducible first | refine seq_op ?hx (fun Q q0 q1 q2 => ?_) | refine draw_op ?hx (fun Q q0 q1 q2 => ?_)); (case hx => exact rfl); conv => whnf)
      | ((with_reducible first | refine seq_off ?hx ?_ | refine seq_off0 ?hx ?_ | refine draw_off ?hx ?_ | refine draw_off0 ?hx ?_ | refine k_blk_out ?hx ?_ | refine vc_condT ?hx ?_); (case hx => exact rfl))
      | ((with_reducible refine seq_id ?_); (first | ((first | refine seq_opK rfl ?hy (fun Q q0 q1 q2 => ?_) | refine seq_opK0 rfl ?hy (fun Q q0 q1 q2 => ?_)); (case hy => first | assumption | exact notT (by assumption) | exact rfl); conv => whnf) | ((first | refine seq_offK rfl ?hy ?_ | refine seq_offK0 rfl ?hy ?_); (case hy => first | assumption | exact notF (by assumption) | exact rfl)) | (revert hF; (with_reducible first | refine seq_opF ?hx ?_ ?_ | refine seq_opF0 ?hx ?_ ?_); (case hx => exact rfl); (intro hc hF Q q0 q1 q2; conv => whnf); rotate_left; (intro hc hF); rotate_right) | (revert hF; (with_reducible first | refine seq_opN ?hx ?_ ?_ | refine seq_opN0 ?hx ?_ ?_); (case hx => exact rfl); (intro hc hF); rotate_left; (intro hc hF Q q0 q1 q2; conv => whnf); rotate_right)))
      | ((with_reducible refine draw_id ?_); (first | ((first | refine draw_opK rfl ?hy (fun Q q0 q1 q2 => ?_) | refine draw_opK0 rfl ?hy (fun Q q0 q1 q2 => ?_)); (case hy => first | assumption | exact notT (by assumption) | exact rfl); conv => whnf) | ((first | refine draw_offK rfl ?hy ?_ | refine draw_offK0 rfl ?hy ?_); (case hy => first | assumption | exact notF (by assumption) | exact rfl)) | (revert hF; (with_reducible first | refine draw_opF ?hx ?_ ?_ | refine draw_opF0 ?hx ?_ ?_); (case hx => exact rfl); (intro hc hF Q q0 q1 q2; conv => whnf); rotate_left; (intro hc hF); rotate_right) | (revert hF; (with_reducible first | refine draw_opN ?hx ?_ ?_ | refine draw_opN0 ?hx ?_ ?_); (case hx => exact rfl); (intro hc hF); rotate_left; (intro hc hF Q q0 q1 q2; conv => whnf); rotate_right)))
      | ((with_reducible refine cond_id ?_); (first | ((refine condKT rfl ?hy ?_); (case hy => first | assumption | exact notT (by assumption) | exact rfl)) | ((refine condKF rfl ?hy ?_); (case hy => first | assumption | exact notF (by assumption) | exact rfl)) | (revert hF; (with_reducible refine condF ?hx ?_ ?_); (case hx => exact rfl); all_goals (intro hc hF))))
      | ((with_reducible refine seq_nil ?_); (first | ((with_reducible refine hR _ ?_); clear R hR) | ((with_reducible refine hL _ ?_); clear L hL)))
      | ((with_reducible refine draw_nil ?_); (with_reducible refine hR _ _ ?hx ?_); (case hx => kernel_rfl); (first | clear R hR | clear hR))
      | ((with_reducible first | refine int_step ?_ | refine len_step ?_); conv => whnf)
      | (with_reducible first | refine vc_block ?_ | refine vc_skip ?_ | refine vc_ret ?_ | refine vc_exit ?_ | refine vc_region (fun R hR => ?_) | refine k_seq_ret ?_ | refine k_seq_exit ?_ | refine k_blk ?_ | refine k_blk_ret ?_ | refine k_blk_here ?_ | refine k_loop_ret ?_ | refine k_loop_exit ?_)
      | ((with_reducible refine vc_seqN [] ?hx ?_); (case hx => exact rfl))
      | ((with_reducible refine vc_draw ?hx (fun R hR => ?_)); (case hx => exact rfl))
      | (revert hF; (refine Lp.loop Ef73_2 _ rfl ⟨_, rfl, rfl, rfl, rfl⟩ (by first | exact rfl | ((try dsimp only [Lf73_2]); first | assumption | omega | (simp only [List.length_set]; done))) (fun _ => rfl) ?_); rintro n ⟨v1, v2, v3, v10, v11⟩ hF; dsimp only [Lf73_2, f73_2] at hF; unfold f73_2b at hF)
      | exact Lp.back Ef73_2 hF _ ⟨_, rfl, rfl, rfl, rfl⟩ (by first | exact rfl | ((try dsimp only [Lf73_2]); first | assumption | omega | (simp only [List.length_set]; done)))
      | (revert hF; (refine G86.step rfl rfl (by first | exact rfl | assumption | omega | (simp only [List.length_set]; done)) rfl ?hn ?_); (case hn => exact rfl); intro v hF; conv => whnf)
      | (revert hF; (refine H73.step rfl rfl (by first | exact rfl | assumption | omega | (simp only [List.length_set]; done)) rfl ?hn ?_); (case hn => exact rfl); intro v hF; conv => whnf)
      | (show retE _ _ _ _ _ _; conv => whnf)
      | (cases hF; exact ⟨rfl, rfl, rfl⟩)
      | ((with_reducible have hG := keep_fact hF); have hk := hG.1; have hF := hG.2; clear hG)
      | ((refine row_all ?hn ?_); (case hn => first | exact rfl | (simp; done) | (simp; omega)); conv => whnf)
      | ((with_reducible refine le_step ?hn ?_); (case hn => first | exact rfl | assumption | omega); conv => whnf)
      | ((refine ⟨?hx, ?_⟩); (case hx => exact ⟨rfl, Nat.le_of_ble_eq_true rfl, rfl⟩); conv => whnf)
      | ((with_reducible refine ex_step ?_); conv => whnf)
      | ((with_reducible refine both_T ?hx ?_); (case hx => first | exact rfl | assumption | exact notT (by assumption)); conv => whnf)
      | ((with_reducible refine both_F ?hx ?_); (case hx => first | exact rfl | assumption | exact notF (by assumption)); conv => whnf)
      | (revert hF; (with_reducible refine ite_step ?_ ?_) <;> (intro hc hF; conv => whnf))
      | ((with_reducible refine vc_condF ?hx ?_); (case hx => exact rfl))
      | (show retD _ _ _ _ _ _; conv => whnf)
      | ((refine ⟨?hx, trivial⟩); (case hx => (cases hF; exact rfl)))
      | ((refine ⟨?hx, ?_⟩); (case hx => decide); conv => whnf)
      | with_reducible refine k_seq ?_
      | (have hF : (none : Option _) = some _ := hF; cases hF))
theorem P73 : CallOK Try.prog 73 (effPg Spf73 G73) := eff_ex Q73
end
end Go.Vc
namespace Go.Vc
open Go.Proofs
set_option linter.unusedVariables false
set_option linter.unnecessarySimpa false
set_option linter.unusedSimpArgs false
section
variable {c : Ctx} {p nid : Nat} {a b : Code} {st : St} {K : Ex → St → Prop}
/- f95: math/bits.Len64 -/
def f95_c7 (x0' : Int) (n2' : Int) : Option (Int) :=
 bif decide ((256 : Int) ≤ (x0')) then ((idxS (strC (List.append (List.append [0, 1, 2, 2, 3, 3, 3, 3, 4, 4, 4, 4, 4, 4, 4, 4, 5, 5, 5, 5, 5, 5, 5, 5, 5, 5, 5, 5, 5, 5, 5, 5, 6, 6, 6, 6, 6, 6, 6, 6, 6, 6, 6, 6, 6, 6, 6, 6, 6, 6, 6, 6, 6, 6, 6, 6, 6, 6, 6, 6, 6, 6, 6, 6] [7, 7, 7, 7, 7, 7, 7, 7, 7, 7, 7, 7, 7, 7, 7, 7, 7, 7, 7, 7, 7, 7, 7, 7, 7, 7, 7, 7, 7, 7, 7, 7, 7, 7, 7, 7, 7, 7, 7, 7, 7, 7, 7, 7, 7, 7, 7, 7, 7, 7, 7, 7, 7, 7, 7, 7, 7, 7, 7, 7, 7, 7, 7, 7]) (List.append [8, 8, 8, 8, 8, 8, 8, 8, 8, 8, 8, 8, 8, 8, 8, 8, 8, 8, 8, 8, 8, 8, 8, 8, 8, 8, 8, 8, 8, 8, 8, 8, 8, 8, 8, 8, 8, 8, 8, 8, 8, 8, 8, 8, 8, 8, 8, 8, 8, 8, 8, 8, 8, 8, 8, 8, 8, 8, 8, 8, 8, 8, 8, 8] [8, 8, 8, 8, 8, 8, 8, 8, 8, 8, 8, 8, 8, 8, 8, 8, 8, 8, 8, 8, 8, 8, 8, 8, 8, 8, 8, 8, 8, 8, 8, 8, 8, 8, 8, 8, 8, 8, 8, 8, 8, 8, 8, 8, 8, 8, 8, 8, 8, 8, 8, 8, 8, 8, 8, 8, 8, 8, 8, 8, 8, 8, 8, 8]))) (Wk .u8 (Int.fdiv (x0') (2 ^ (min (Int.toNat (8 : Int)) 64))))).bind fun x1 =>
 some (W ((W ((n2') + (8 : Int))) + x1)))
 else ((idxS (strC (List.append (List.append [0, 1, 2, 2, 3, 3, 3, 3, 4, 4, 4, 4, 4, 4, 4, 4, 5, 5, 5, 5, 5, 5, 5, 5, 5, 5, 5, 5, 5, 5, 5, 5, 6, 6, 6, 6, 6, 6, 6, 6, 6, 6, 6, 6, 6, 6, 6, 6, 6, 6, 6, 6, 6, 6, 6, 6, 6, 6, 6, 6, 6, 6, 6, 6] [7, 7, 7, 7, 7, 7, 7, 7, 7, 7, 7, 7, 7, 7, 7, 7, 7, 7, 7, 7, 7, 7, 7, 7, 7, 7, 7, 7, 7, 7, 7, 7, 7, 7, 7, 7, 7, 7, 7, 7, 7, 7, 7, 7, 7, 7, 7, 7, 7, 7, 7, 7, 7, 7, 7, 7, 7, 7, 7, 7, 7, 7, 7, 7]) (List.append [8, 8, 8, 8, 8, 8, 8, 8, 8, 8, 8, 8, 8, 8, 8, 8, 8, 8, 8, 8, 8, 8, 8, 8, 8, 8, 8, 8, 8, 8, 8, 8, 8, 8, 8, 8, 8, 8, 8, 8, 8, 8, 8, 8, 8, 8, 8, 8, 8, 8, 8, 8, 8, 8, 8, 8, 8, 8, 8, 8, 8, 8, 8, 8] [8, 8, 8, 8, 8, 8, 8, 8, 8, 8, 8, 8, 8, 8, 8, 8, 8, 8, 8, 8, 8, 8, 8, 8, 8, 8, 8, 8, 8, 8, 8, 8, 8, 8, 8, 8, 8, 8, 8, 8, 8, 8, 8, 8, 8, 8, 8, 8, 8, 8, 8, 8, 8, 8, 8, 8, 8, 8, 8, 8, 8, 8, 8, 8]))) (Wk .u8 (x0'))).bind fun x2 =>
 some (W ((n2') + x2)))
def Lf95_c7 : Lp (Int × Int) Unit (Int) := lp0 ⟨[0, 2], [], [], []⟩ (fun (x0', n2') => [.dat (u64N (x0')), .dat (iN (n2'))]) (fun (_, _) => []) (fun (x0', n2') => f95_c7 x0' n2')
theorem Ef95_c7 {x0' n2'} : (Lf95_c7).E (x0', n2') = f95_c7 x0' n2' := rfl
def f95_c4 (x0 : Int) (n2 : Int) : Option (Int) :=
 joinK f95_c7 fun k0 =>
 bif decide ((65536 : Int) ≤ x0) then (k0 (Int.fdiv x0 (2 ^ (min (Int.toNat (16 : Int)) 64))) (W (n2 + (16 : Int))))
 else (k0 x0 n2)
def Lf95_c4 : Lp (Int × Int) Unit (Int) := lp0 ⟨[0, 2], [], [], []⟩ (fun (x0, n2) => [.dat (u64N x0), .dat (iN n2)]) (fun (_, _) => []) (fun (x0, n2) => f95_c4 x0 n2)
theorem Ef95_c4 {x0 n2} : (Lf95_c4).E (x0, n2) = f95_c4 x0 n2 := rfl
def f95 (N : Nat) (a0 : Int) : Option (Int) :=
 joinK f95_c4 fun k1 =>
 bif decide ((4294967296 : Int) ≤ a0) then (k1 (Int.fdiv a0 (2 ^ (min (Int.toNat (32 : Int)) 64))) (32 : Int))
 else (k1 a0 (0 : Int))
def G95 (ds : List D) (d : D) : Prop := ∃ (N : Nat) (a0 : Int) (r : Int), ds = [u64N a0] ∧ f95 N a0 = some r ∧ d = iN r
theorem G95.lend {N : Nat} {a0 : Int} {ρ : Type} {A : Int → Option ρ} {q : ρ} {ds : List D} {K : D → Prop} (hd : ds = [u64N a0]) (h : ∀ r, A r = some q → K (iN r)) (hF : (f95 N a0).bind A = some q) : ∃ d, (G95 ds d ∧ d.flatB = true) ∧ K d := by
  obtain ⟨r, hr, hA⟩ := bind_some hF
  exact ⟨_, ⟨⟨N, a0, r, hd, hr, rfl⟩, rfl⟩, h r hA⟩
theorem G95.step {N : Nat} {a0 : Int} {ρ : Type} {A : Int → Option ρ} {q : ρ} {ds : List D} {K : D → Prop} (hd : ds = [u64N a0]) (h : ∀ r, A r = some q → K (iN r)) (hF : (f95 N a0).bind A = some q) : ∃ d, G95 ds d ∧ K d := by
  obtain ⟨r, hr, hA⟩ := bind_some hF
  exact ⟨_, ⟨N, a0, r, hd, hr, rfl⟩, h r hA⟩
set_option maxRecDepth 20000 in
set_option maxHeartbeats 4000000 in
theorem P95 : PureOK Try.prog 95 G95 := by
  refine pure_of_vc (c := mkCtx tyTree []) rfl tyOK (ctx_nil) [[0]] 1 Try.func95 rfl rfl (by decide) (by kernel_rfl) ?_
  rintro ds d ⟨N, a0, r, rfl, hF, rfl⟩ hok
  clear hok
  refine ⟨rfl, ?_⟩
  show vc _ _ _ _ ⟨[(0, .dat (u64N a0))], []⟩ _
  unfold f95 at hF
  repeat' (first
    | ((with_reducible first | refine q0 _ _ ?_ | refine q1 _ _ _ _ ?_ | refine q2 _ _ _ ?_); clear Q q0 q1 q2)
    | ((with_reducible first | refine seq_op ?hx (fun Q q0 q1 q2 => ?_)); (case hx => exact rfl); conv => whnf)
    | ((with_reducible refine cond_id ?_); (first | ((refine condKT rfl ?hy ?_); (case hy => first | assumption | exact notT (by assumption) | exact rfl)) | ((refine condKF rfl ?hy ?_); (case hy => first | assumption | exact notF (by assumption) | exact rfl)) | (revert hF; (with_reducible refine condF ?hx ?_ ?_); (case hx => exact rfl); all_goals (intro hc hF))))
    | ((with_reducible refine seq_nil ?_); (first | ((with_reducible refine hR _ ?_); clear R hR) | ((with_reducible refine hL _ ?_); clear L hL)))
    | ((with_reducible first | refine int_step ?_); conv => whnf)
    | (with_reducible first | refine vc_block ?_ | refine vc_skip ?_ | refine vc_ret ?_ | refine vc_exit ?_ | refine vc_region (fun R hR => ?_) | refine k_seq_ret ?_ | refine k_seq_exit ?_ | refine k_blk ?_ | refine k_blk_ret ?_ | refine k_blk_here ?_)
    | ((with_reducible refine vc_seqN [7, 4] ?hx ?_); (case hx => exact rfl))
    | (revert hF; (refine Lp.cut0 Lf95_c7 f95_c7 7 rfl rfl ?_ ?_); (intro hF); rotate_left; (rintro ⟨x0', n2'⟩ hF; dsimp only [Lf95_c7] at hF; unfold f95_c7 at hF); rotate_right)
    | exact Lp.head Ef95_c7 hF () ⟨_, rfl, rfl, rfl, rfl⟩ rfl
    | (revert hF; (refine Lp.cut0 Lf95_c4 f95_c4 4 rfl rfl ?_ ?_); (intro hF); rotate_left; (rintro ⟨x0, n2⟩ hF; dsimp only [Lf95_c4] at hF; unfold f95_c4 at hF); rotate_right)
    | exact Lp.head Ef95_c4 hF () ⟨_, rfl, rfl, rfl, rfl⟩ rfl
    | (revert hF; (refine idxS_step ?_); intro x hF; conv => whnf)
    | ((with_reducible first | refine k_blk_out ?hx ?_ | refine vc_condT ?hx ?_); (case hx => exact rfl))
    | ((refine row_all ?hn ?_); (case hn => first | exact rfl | (simp; done) | (simp; omega)); conv => whnf)
    | ((with_reducible refine le_step ?hn ?_); (case hn => first | exact rfl | assumption | omega); conv => whnf)
    | ((refine ⟨?hx, ?_⟩); (case hx => exact ⟨rfl, Nat.le_of_ble_eq_true rfl, rfl⟩); conv => whnf)
    | ((with_reducible refine ex_step ?_); conv => whnf)
    | ((with_reducible refine both_T ?hx ?_); (case hx => first | exact rfl | assumption | exact notT (by assumption)); conv => whnf)
    | ((with_reducible refine both_F ?hx ?_); (case hx => first | exact rfl | assumption | exact notF (by assumption)); conv => whnf)
    | (revert hF; (with_reducible refine ite_step ?_ ?_) <;> (intro hc hF; conv => whnf))
    | ((with_reducible refine vc_condF ?hx ?_); (case hx => exact rfl))
    | (show retD _ _ _ _ _ _; conv => whnf)
    | ((refine ⟨?hx, trivial⟩); (case hx => (cases hF; exact rfl)))
    | ((refine ⟨?hx, ?_⟩); (case hx => decide); conv => whnf)
    | with_reducible refine k_seq ?_
    | (have hF : (none : Option _) = some _ := hF; cases hF))
end
end Go.Vc
namespace Go.Vc
open Go.Proofs
set_option linter.unusedVariables false
set_option linter.unnecessarySimpa false
set_option linter.unusedSimpArgs false
section
variable {c : Ctx} {p nid : Nat} {a b : Code} {st : St} {K : Ex → St → Prop}
/- f74: math/bits.Len -/
def f74 (N : Nat) (a0 : Int) : Option (Int) :=
 (f95 N a0).bind fun x1 =>
 some (x1)
def G74 (ds : List D) (d : D) : Prop := ∃ (N : Nat) (a0 : Int) (r : Int), ds = [u64N a0] ∧ f74 N a0 = some r ∧ d = iN r
theorem G74.lend {N : Nat} {a0 : Int} {ρ : Type} {A : Int → Option ρ} {q : ρ} {ds : List D} {K : D → Prop} (hd : ds = [u64N a0]) (h : ∀ r, A r = some q → K (iN r)) (hF : (f74 N a0).bind A = some q) : ∃ d, (G74 ds d ∧ d.flatB = true) ∧ K d := by
  obtain ⟨r, hr, hA⟩ := bind_some hF
  exact ⟨_, ⟨⟨N, a0, r, hd, hr, rfl⟩, rfl⟩, h r hA⟩
theorem G74.step {N : Nat} {a0 : Int} {ρ : Type} {A : Int → Option ρ} {q : ρ} {ds : List D} {K : D → Prop} (hd : ds = [u64N a0]) (h : ∀ r, A r = some q → K (iN r)) (hF : (f74 N a0).bind A = some q) : ∃ d, G74 ds d ∧ K d := by
  obtain ⟨r, hr, hA⟩ := bind_some hF
  exact ⟨_, ⟨N, a0, r, hd, hr, rfl⟩, h r hA⟩
set_option maxRecDepth 20000 in
set_option maxHeartbeats 4000000 in
theorem P74 : PureOK Try.prog 74 G74 := by
  refine pure_of_vc (c := mkCtx tyTree [(95, true, lendPg [[0]] G95)]) rfl tyOK (ctx_lend (callable Try.func95 rfl rfl) P95 (ctx_nil)) [[0]] 1 Try.func74 rfl rfl (by decide) (by kernel_rfl) ?_
  rintro ds d ⟨N, a0, r, rfl, hF, rfl⟩ hok
  clear hok
  refine ⟨rfl, ?_⟩
  show vc _ _ _ _ ⟨[(0, .dat (u64N a0))], []⟩ _
  unfold f74 at hF
  repeat' (first
    | ((with_reducible first | refine q0 _ _ ?_ | refine q1 _ _ _ _ ?_ | refine q2 _ _ _ ?_); clear Q q0 q1 q2)
    | ((with_reducible first | refine seq_op ?hx (fun Q q0 q1 q2 => ?_)); (case hx => exact rfl); conv => whnf)
    | ((with_reducible refine seq_nil ?_); (first | ((with_reducible refine hR _ ?_); clear R hR) | ((with_reducible refine hL _ ?_); clear L hL)))
    | ((with_reducible first | refine int_step ?_); conv => whnf)
    | (with_reducible first | refine vc_skip ?_ | refine vc_constT ?_ | refine vc_constF ?_ | refine vc_ret ?_ | refine vc_region (fun R hR => ?_) | refine k_seq_ret ?_)
    | ((with_reducible refine vc_seqN [] ?hx ?_); (case hx => exact rfl))
    | (revert hF; (with_reducible refine G95.lend ?hx ?_); (case hx => exact rfl); intro v hF; conv => whnf)
    | ((refine row_all ?hn ?_); (case hn => first | exact rfl | (simp; done) | (simp; omega)); conv => whnf)
    | ((with_reducible refine le_step ?hn ?_); (case hn => first | exact rfl | assumption | omega); conv => whnf)
    | ((refine ⟨?hx, ?_⟩); (case hx => exact ⟨rfl, Nat.le_of_ble_eq_true rfl, rfl⟩); conv => whnf)
    | ((with_reducible refine ex_step ?_); conv => whnf)
    | ((with_reducible refine both_T ?hx ?_); (case hx => first | exact rfl | assumption | exact notT (by assumption)); conv => whnf)
    | ((with_reducible refine both_F ?hx ?_); (case hx => first | exact rfl | assumption | exact notF (by assumption)); conv => whnf)
    | (revert hF; (with_reducible refine ite_step ?_ ?_) <;> (intro hc hF; conv => whnf))
    | (show retD _ _ _ _ _ _; conv => whnf)
    | ((refine ⟨?hx, trivial⟩); (case hx => (cases hF; exact rfl)))
    | ((refine ⟨?hx, ?_⟩); (case hx => decide); conv => whnf)
    | with_reducible refine k_seq ?_
    | (have hF : (none : Option _) = some _ := hF; cases hF))
end
end Go.Vc
namespace Go.Vc
open Go.Proofs
set_option linter.unusedVariables false
set_option linter.unnecessarySimpa false
set_option linter.unusedSimpArgs false
section
variable {c : Ctx} {p nid : Nat} {a b : Code} {st : St} {K : Ex → St → Prop}
/- f35: tusche/repeat.Join -/
def f35_c24 (N : Nat) (v8 : List ByteArray) : Option (ByteArray × Int) :=
 (f62 N v8 emptyS).bind fun x4 =>
 (f63 N emptyS v8 x4).bind fun x5 =>
 some (x5, (0 : Int))
def Lf35_c24 (N : Nat) : Lp ((List ByteArray)) (Nat) (ByteArray × Int) := ⟨⟨[8], [90008], [(.slot 8, 90008, 9, 1)], []⟩, fun v8 => [.rs 90008 (List.length v8)], fun v8 => [.row 9 1 (List.map strN v8)], fun v8 => f35_c24 N v8, fun _ m0 => [.rs 90008 m0], fun v8 _ => [.row 9 1 (List.map strN v8)], fun v8 => List.length v8, fun _ => rfl, fun _ => rfl⟩
theorem Ef35_c24 {N v8} : (Lf35_c24 N).E v8 = f35_c24 N v8 := rfl
def f35_i2102_i2103000102_c7 (x3 : List ByteArray) (v8 : List ByteArray) (v46 : Int) (r19 : (List ByteArray) → Int → Option (ByteArray × Int)) (x6 : ByteArray) : Option (ByteArray × Int) :=
 (app 16 v8 [x6]).bind fun x7 =>
 r19 x7 (W (v46 + (1 : Int)))
def Lf35_i2102_i2103000102_c7 (x3 : List ByteArray) (v8 : List ByteArray) (v46 : Int) (r19 : (List ByteArray) → Int → Option (ByteArray × Int)) (x6 : ByteArray) : Lp (Unit) Unit (ByteArray × Int) := lp0 ⟨[], [2002, 90004, 90008], [], []⟩ (fun _ => []) (fun _ => [.box [.dat (strN x6)], .row 9 1 (List.map strN x3), .row 9 1 (List.map strN v8)]) (fun _ => f35_i2102_i2103000102_c7 x3 v8 v46 r19 x6)
theorem Ef35_i2102_i2103000102_c7 {x3 v8 v46 r19 x6} : (Lf35_i2102_i2103000102_c7 x3 v8 v46 r19 x6).E () = f35_i2102_i2103000102_c7 x3 v8 v46 r19 x6 := rfl
def f35_i2102_i2103000102_2b (r2 : Int → Option (ByteArray × Int)) (N : Nat) (x3 : List ByteArray) (v8 : List ByteArray) (v46 : Int) (r19 : (List ByteArray) → Int → Option (ByteArray × Int)) (x6 : ByteArray) (k1 : Option (ByteArray × Int)) (v8' : Int) : Option (ByteArray × Int) :=
 bif decide ((v8') < (List.length v8 : Int)) then ((ix v8 (v8')).bind fun x8 =>
 (f56 N x8 x6).bind fun x9 =>
 bif x9 then (bif !(decide ((0 : Int) ≤ (v8'))) then ((app 16 v8 [x6]).bind fun x10 =>
 r19 x10 (W (v46 + (1 : Int))))
 else (r19 v8 (W (v46 + (1 : Int)))))
 else (r2 (W ((v8') + (1 : Int)))))
 else k1
def f35_i2102_i2103000102_2 (N : Nat) (x3 : List ByteArray) (v8 : List ByteArray) (v46 : Int) (r19 : (List ByteArray) → Int → Option (ByteArray × Int)) (x6 : ByteArray) (k1 : Option (ByteArray × Int)) : Nat → Int → Option (ByteArray × Int)
  | 0, _ => none
  | n + 1, v8' => f35_i2102_i2103000102_2b (f35_i2102_i2103000102_2 N x3 v8 v46 r19 x6 k1 n) N x3 v8 v46 r19 x6 k1 v8'
def Lf35_i2102_i2103000102_2 (N : Nat) (x3 : List ByteArray) (v8 : List ByteArray) (v46 : Int) (r19 : (List ByteArray) → Int → Option (ByteArray × Int)) (x6 : ByteArray) (k1 : Option (ByteArray × Int)) : Lp (Nat × Int) (Nat × Nat) (ByteArray × Int) := ⟨⟨[0, 1, 7, 8], [2002, 90004, 90008], [], []⟩, fun (_, v8') => [.rs 90008 (List.length v8), .fn 61 [] [.ptr 2002 0], .dat (iN (List.length v8 : Int)), .dat (iN (v8'))], fun (_, _) => [.box [.dat (strN x6)], .row 9 1 (List.map strN x3), .row 9 1 (List.map strN v8)], fun (n, v8') => f35_i2102_i2103000102_2 N x3 v8 v46 r19 x6 k1 n v8', fun (_, v8') (m0, m1) => [.rs 90008 m0, .fn 61 [] [.ptr 2002 0], .dat (iN (m1 : Int)), .dat (iN (v8'))], fun (_, _) (_, _) => [.box [.dat (strN x6)], .row 9 1 (List.map strN x3), .row 9 1 (List.map strN v8)], fun (_, _) => (List.length v8, List.length v8), fun _ => rfl, fun _ => rfl⟩
theorem Ef35_i2102_i2103000102_2 {N x3 v8 v46 r19 x6 k1 n v8'} : (Lf35_i2102_i2103000102_2 N x3 v8 v46 r19 x6 k1).E (n, v8') = f35_i2102_i2103000102_2 N x3 v8 v46 r19 x6 k1 n v8' := rfl
def f35_19b (r19 : (List ByteArray) → Int → Option (ByteArray × Int)) (N : Nat) (x3 : List ByteArray) (k0 : (List ByteArray) → Option (ByteArray × Int)) (v8 : List ByteArray) (v46 : Int) : Option (ByteArray × Int) :=
 bif decide (v46 < (List.length x3 : Int)) then ((ix x3 v46).bind fun x6 =>
 joinK (f35_i2102_i2103000102_c7 x3 v8 v46 r19 x6) fun k1 =>
 f35_i2102_i2103000102_2 N x3 v8 v46 r19 x6 k1 N (0 : Int))
 else (k0 v8)
def f35_19 (N : Nat) (x3 : List ByteArray) (k0 : (List ByteArray) → Option (ByteArray × Int)) : Nat → (List ByteArray) → Int → Option (ByteArray × Int)
  | 0, _, _ => none
  | n + 1, v8, v46 => f35_19b (f35_19 N x3 k0 n) N x3 k0 v8 v46
def Lf35_19 (N : Nat) (x3 : List ByteArray) (k0 : (List ByteArray) → Option (ByteArray × Int)) : Lp (Nat × (List ByteArray) × Int) (Nat × Nat × Nat) (ByteArray × Int) := ⟨⟨[8, 44, 45, 46], [90004, 90008], [(.slot 8, 90008, 9, 1)], []⟩, fun (_, v8, v46) => [.rs 90008 (List.length v8), .rs 90004 (List.length x3), .dat (iN (List.length x3 : Int)), .dat (iN v46)], fun (_, v8, _) => [.row 9 1 (List.map strN x3), .row 9 1 (List.map strN v8)], fun (n, v8, v46) => f35_19 N x3 k0 n v8 v46, fun (_, _, v46) (m0, m1, m2) => [.rs 90008 m0, .rs 90004 m1, .dat (iN (m2 : Int)), .dat (iN v46)], fun (_, v8, _) (_, _, _) => [.row 9 1 (List.map strN x3), .row 9 1 (List.map strN v8)], fun (_, v8, _) => (List.length v8, List.length x3, List.length x3), fun _ => rfl, fun _ => rfl⟩
theorem Ef35_19 {N x3 k0 n v8 v46} : (Lf35_19 N x3 k0).E (n, v8, v46) = f35_19 N x3 k0 n v8 v46 := rfl
def f35_c16 (N : Nat) (v4 : List ByteArray) : Option (ByteArray × Int) :=
 (f74 N (Wk .u64 ((List.length v4 : Int)))).bind fun x1 =>
 (f73 N (0 : Int) (List.length v4 : Int) x1 v4).bind fun x2 =>
 (keepL v4 x2).bind fun x3 =>
 joinK (f35_c24 N) fun k0 =>
 f35_19 N x3 k0 N [] (0 : Int)
def Lf35_c16 (N : Nat) : Lp ((List ByteArray)) (Nat) (ByteArray × Int) := ⟨⟨[4], [90004], [(.slot 4, 90004, 9, 1)], []⟩, fun v4 => [.rs 90004 (List.length v4)], fun v4 => [.row 9 1 (List.map strN v4)], fun v4 => f35_c16 N v4, fun _ m0 => [.rs 90004 m0], fun v4 _ => [.row 9 1 (List.map strN v4)], fun v4 => List.length v4, fun _ => rfl, fun _ => rfl⟩
theorem Ef35_c16 {N v4} : (Lf35_c16 N).E v4 = f35_c16 N v4 := rfl
def f35_7b (r7 : (List ByteArray) → Int → Option (ByteArray × Int)) (a0 : List ByteArray) (N : Nat) (k2 : (List ByteArray) → Option (ByteArray × Int)) (v4 : List ByteArray) (v23 : Int) : Option (ByteArray × Int) :=
 bif decide (v23 < (List.length a0 : Int)) then ((ix a0 v23).bind fun x11 =>
 (f23 N x11).bind fun x12 =>
 bif decide (¬ x12 = (0 : Int)) then (some (emptyS, x12))
 else (bif decide ((8 : Int) < (ByteArray.size x11 : Int)) then (some (emptyS, (19 : Int)))
 else ((app 16 v4 [x11]).bind fun x13 =>
 r7 x13 (W (v23 + (1 : Int))))))
 else (k2 v4)
def f35_7 (a0 : List ByteArray) (N : Nat) (k2 : (List ByteArray) → Option (ByteArray × Int)) : Nat → (List ByteArray) → Int → Option (ByteArray × Int)
  | 0, _, _ => none
  | n + 1, v4, v23 => f35_7b (f35_7 a0 N k2 n) a0 N k2 v4 v23
def Lf35_7 (a0 : List ByteArray) (N : Nat) (k2 : (List ByteArray) → Option (ByteArray × Int)) : Lp (Nat × (List ByteArray) × Int) (Nat × Nat) (ByteArray × Int) := ⟨⟨[4, 21, 22, 23], [90004], [(.slot 4, 90004, 9, 1)], []⟩, fun (_, v4, v23) => [.rs 90004 (List.length v4), .dat (sl_strN a0), .dat (iN (List.length a0 : Int)), .dat (iN v23)], fun (_, v4, _) => [.row 9 1 (List.map strN v4)], fun (n, v4, v23) => f35_7 a0 N k2 n v4 v23, fun (_, _, v23) (m0, m1) => [.rs 90004 m0, .dat (sl_strN a0), .dat (iN (m1 : Int)), .dat (iN v23)], fun (_, v4, _) (_, _) => [.row 9 1 (List.map strN v4)], fun (_, v4, _) => (List.length v4, List.length a0), fun _ => rfl, fun _ => rfl⟩
theorem Ef35_7 {a0 N k2 n v4 v23} : (Lf35_7 a0 N k2).E (n, v4, v23) = f35_7 a0 N k2 n v4 v23 := rfl
def f35 (N : Nat) (a0 : List ByteArray) : Option (ByteArray × Int) :=
 bif decide ((List.length a0 : Int) = (0 : Int)) then (some (emptyS, (1 : Int)))
 else (bif decide ((5 : Int) < (List.length a0 : Int)) then (some (emptyS, (2 : Int)))
 else (joinK (f35_c16 N) fun k2 =>
 f35_7 a0 N k2 N [] (0 : Int)))
def G35 (ds : List D) (d : D) : Prop := ∃ (N : Nat) (a0 : List ByteArray) (r : ByteArray × Int), ds = [sl_strN a0] ∧ f35 N a0 = some r ∧ d = .tup [strN r.1, iN r.2]
theorem G35.lend {N : Nat} {a0 : List ByteArray} {ρ : Type} {A : (ByteArray × Int) → Option ρ} {q : ρ} {ds : List D} {K : D → Prop} (hd : ds = [sl_strN a0]) (h : ∀ r, A r = some q → K (.tup [strN r.1, iN r.2])) (hF : (f35 N a0).bind A = some q) : ∃ d, (G35 ds d ∧ d.flatB = true) ∧ K d := by
  obtain ⟨r, hr, hA⟩ := bind_some hF
  exact ⟨_, ⟨⟨N, a0, r, hd, hr, rfl⟩, rfl⟩, h r hA⟩
theorem G35.step {N : Nat} {a0 : List ByteArray} {ρ : Type} {A : (ByteArray × Int) → Option ρ} {q : ρ} {ds : List D} {K : D → Prop} (hd : ds = [sl_strN a0]) (h : ∀ r, A r = some q → K (.tup [strN r.1, iN r.2])) (hF : (f35 N a0).bind A = some q) : ∃ d, G35 ds d ∧ K d := by
  obtain ⟨r, hr, hA⟩ := bind_some hF
  exact ⟨_, ⟨N, a0, r, hd, hr, rfl⟩, h r hA⟩
set_option maxRecDepth 20000 in
set_option maxHeartbeats 4000000 in
theorem P35 : PureOK Try.prog 35 G35 := by
  refine pure_of_vc (c := mkCtx tyTree [(60, false, inlPg (mkCtx tyTree [(75, false, inlPg (mkCtx tyTree [(61, false, inlPg (mkCtx tyTree [(56, true, lendPg [[0], [0]] G56)]) Try.f61)]) Try.f75)]) Try.f60), (58, false, inlPg (mkCtx tyTree [(73, false, effPg Spf73 G73), (74, true, lendPg [[0]] G74)]) Try.f58), (63, false, frzPg (effPg Spf63 G63)), (62, true, lendPg [[1], [0]] G62), (23, true, lendPg [[0]] G23)]) rfl tyOK (ctx_eff (callable Try.func60 rfl rfl) (CallOK.inl rfl tyOK (ctx_eff (callable Try.func75 rfl rfl) (CallOK.inl rfl tyOK (ctx_eff (callable Try.func61 rfl rfl) (CallOK.inl rfl tyOK (ctx_lend (callable Try.func56 rfl rfl) P56 (ctx_nil)) Try.func61 (by kernel_rfl)) (ctx_nil)) Try.func75 (by kernel_rfl)) (ctx_nil)) Try.func60 (by kernel_rfl)) (ctx_eff (callable Try.func58 rfl rfl) (CallOK.inl rfl tyOK (ctx_eff (callable Try.func73 rfl rfl) P73 (ctx_lend (callable Try.func74 rfl rfl) P74 (ctx_nil))) Try.func58 (by kernel_rfl)) (ctx_eff (callable Try.func63 rfl rfl) (CallOK.frz P63) (ctx_lend (callable Try.func62 rfl rfl) P62 (ctx_lend (callable Try.func23 rfl rfl) P23 (ctx_nil)))))) [[0], [0]] 1 Try.func35 rfl rfl (by decide) (by kernel_rfl) ?_
  rintro ds d ⟨N, a0, r, rfl, hF, rfl⟩ hok
  clear hok
  refine ⟨rfl, ?_⟩
  show vc _ _ _ _ ⟨[(0, .dat (sl_strN a0))], []⟩ _
  unfold f35 at hF
  repeat' (first
    | ((with_reducible first | refine q0 _ _ ?_ | refine q1 _ _ _ _ ?_ | refine q2 _ _ _ ?_); clear Q q0 q1 q2)
    | ((with_reducible first | refine seq_op ?hx (fun Q q0 q1 q2 => ?_) | refine seq_op0 ?hx (fun Q q0 q1 q2 => ?_)); (case hx => exact rfl); conv => whnf)
    | ((with_reducible refine cond_id ?_); (first | ((refine condKT rfl ?hy ?_); (case hy => first | assumption | exact notT (by assumption) | exact rfl)) | ((refine condKF rfl ?hy ?_); (case hy => first | assumption | exact notF (by assumption) | exact rfl)) | (revert hF; (with_reducible refine condF ?hx ?_ ?_); (case hx => exact rfl); all_goals (intro hc hF))))
    | ((with_reducible refine seq_nil ?_); (first | ((with_reducible refine hR _ ?_); clear R hR) | ((with_reducible refine hL _ ?_); clear L hL)))
    | ((with_reducible first | refine int_step ?_ | refine len_step ?_ | refine idx2 (by assumption) ?_ | refine idx3 (by assumption) ?_); conv => whnf)
    | (with_reducible first | refine vc_block ?_ | refine vc_skip ?_ | refine vc_ret ?_ | refine vc_exit ?_ | refine vc_region (fun R hR => ?_) | refine k_seq_ret ?_ | refine k_seq_exit ?_ | refine k_blk ?_ | refine k_blk_ret ?_ | refine k_blk_here ?_ | refine k_loop_ret ?_ | refine k_loop_exit ?_)
    | ((with_reducible refine vc_seqN [24, 2103000103000000007, 16] ?hx ?_); (case hx => exact rfl))
    | (revert hF; (refine Lp.cut1 Lf35_c24 f35_c24 24 rfl rfl ?_ ?_); (intro hF); rotate_left; (rintro v8 hF; dsimp only [Lf35_c24] at hF; unfold f35_c24 at hF); rotate_right)
    | exact Lp.head Ef35_c24 hF _ ⟨_, rfl, rfl, rfl, rfl⟩ (by first | exact rfl | ((try dsimp only [Lf35_c24]); first | assumption | omega | (simp only [List.length_set]; done)))
    | (revert hF; (refine Lp.cut5 Lf35_i2102_i2103000102_c7 f35_i2102_i2103000102_c7 2103000103000000007 rfl rfl ?_ ?_); (intro hF); rotate_left; (rintro _ hF; dsimp only [Lf35_i2102_i2103000102_c7] at hF; unfold f35_i2102_i2103000102_c7 at hF); rotate_right)
    | exact Lp.head Ef35_i2102_i2103000102_c7 hF () ⟨_, rfl, rfl, rfl, rfl⟩ rfl
    | (revert hF; (refine Lp.loop Ef35_i2102_i2103000102_2 (_, _) rfl ⟨_, rfl, rfl, rfl, rfl⟩ (pr2 (by first | exact rfl | ((try dsimp only [Lf35_i2102_i2103000102_2]); first | assumption | omega | (simp only [List.length_set]; done))) (by first | exact rfl | ((try dsimp only [Lf35_i2102_i2103000102_2]); first | assumption | omega | (simp only [List.length_set]; done)))) (fun _ => rfl) ?_); rintro n v8' hF; dsimp only [Lf35_i2102_i2103000102_2, f35_i2102_i2103000102_2] at hF; unfold f35_i2102_i2103000102_2b at hF)
    | exact Lp.back Ef35_i2102_i2103000102_2 hF (_, _) ⟨_, rfl, rfl, rfl, rfl⟩ (pr2 (by first | exact rfl | ((try dsimp only [Lf35_i2102_i2103000102_2]); first | assumption | omega | (simp only [List.length_set]; done))) (by first | exact rfl | ((try dsimp only [Lf35_i2102_i2103000102_2]); first | assumption | omega | (simp only [List.length_set]; done))))
    | (revert hF; (refine Lp.loop Ef35_19 (_, _, _) rfl ⟨_, rfl, rfl, rfl, rfl⟩ (pr2 (by first | exact rfl | ((try dsimp only [Lf35_19]); first | assumption | omega | (simp only [List.length_set]; done))) (pr2 (by first | exact rfl | ((try dsimp only [Lf35_19]); first | assumption | omega | (simp only [List.length_set]; done))) (by first | exact rfl | ((try dsimp only [Lf35_19]); first | assumption | omega | (simp only [List.length_set]; done))))) (fun _ => rfl) ?_); rintro n ⟨v8, v46⟩ hF; dsimp only [Lf35_19, f35_19] at hF; unfold f35_19b at hF)
    | exact Lp.back Ef35_19 hF (_, _, _) ⟨_, rfl, rfl, rfl, rfl⟩ (pr2 (by first | exact rfl | ((try dsimp only [Lf35_19]); first | assumption | omega | (simp only [List.length_set]; done))) (pr2 (by first | exact rfl | ((try dsimp only [Lf35_19]); first | assumption | omega | (simp only [List.length_set]; done))) (by first | exact rfl | ((try dsimp only [Lf35_19]); first | assumption | omega | (simp only [List.length_set]; done)))))
    | (revert hF; (refine Lp.cut1 Lf35_c16 f35_c16 16 rfl rfl ?_ ?_); (intro hF); rotate_left; (rintro v4 hF; dsimp only [Lf35_c16] at hF; unfold f35_c16 at hF); rotate_right)
    | exact Lp.head Ef35_c16 hF _ ⟨_, rfl, rfl, rfl, rfl⟩ (by first | exact rfl | ((try dsimp only [Lf35_c16]); first | assumption | omega | (simp only [List.length_set]; done)))
    | (revert hF; (refine Lp.loop Ef35_7 (_, _) rfl ⟨_, rfl, rfl, rfl, rfl⟩ (pr2 (by first | exact rfl | ((try dsimp only [Lf35_7]); first | assumption | omega | (simp only [List.length_set]; done))) (by first | exact rfl | ((try dsimp only [Lf35_7]); first | assumption | omega | (simp only [List.length_set]; done)))) (fun _ => rfl) ?_); rintro n ⟨v4, v23⟩ hF; dsimp only [Lf35_7, f35_7] at hF; unfold f35_7b at hF)
    | exact Lp.back Ef35_7 hF (_, _) ⟨_, rfl, rfl, rfl, rfl⟩ (pr2 (by first | exact rfl | ((try dsimp only [Lf35_7]); first | assumption | omega | (simp only [List.length_set]; done))) (by first | exact rfl | ((try dsimp only [Lf35_7]); first | assumption | omega | (simp only [List.length_set]; done))))
    | (revert hF; (with_reducible refine G23.lend ?hx ?_); (case hx => exact rfl); intro v hF; conv => whnf)
    | (revert hF; (with_reducible refine G56.lend ?hx ?_); (case hx => exact rfl); intro v hF; conv => whnf)
    | (revert hF; (with_reducible refine G62.lend ?hx ?_); (case hx => exact rfl); intro v hF; conv => whnf)
    | (revert hF; (with_reducible refine G74.lend ?hx ?_); (case hx => exact rfl); intro v hF; conv => whnf)
    | (revert hF; (refine G63.step rfl rfl rfl  rfl ?hn ?_); (case hn => exact rfl); intro v hF; conv => whnf)
    | (revert hF; (refine G73.step rfl rfl (by first | exact rfl | assumption | omega | (simp only [List.length_set]; done)) rfl ?hn ?_); (case hn => exact rfl); intro v hF; conv => whnf)
    | ((with_reducible have hG := keep_fact hF); have hk := hG.1; have hF := hG.2; clear hG)
    | ((with_reducible first | refine k_blk_out ?hx ?_ | refine vc_condT ?hx ?_); (case hx => exact rfl))
    | (revert hF; (with_reducible refine idx1 ?hn ?_); (case hn => first | exact rfl | exact (List.length_map _) | assumption | omega | simp); intro x hx hF; conv => whnf)
    | ((with_reducible have hG := app_fact hF); clear hF; (first | ((refine app_row hG ?hn ?hs (fun q hF => ?_)); (case hn => first | exact rfl | assumption | omega); (case hs => exact rfl)) | ((refine app_nil (d := strN) hG ?hs (fun q hF => ?_)); (case hs => exact rfl)) | ((refine app_gen (d := strN) hG ?ho ?hn ?hs (fun q hF => ?_)); (case ho => exact rfl); (case hn => exact rfl); (case hs => exact rfl))); clear hG; conv => whnf)
    | ((refine row_all ?hn ?_); (case hn => first | exact rfl | (simp; done) | (simp; omega)); conv => whnf)
    | ((with_reducible refine le_step ?hn ?_); (case hn => first | exact rfl | assumption | omega); conv => whnf)
    | ((refine ⟨?hx, ?_⟩); (case hx => exact ⟨rfl, Nat.le_of_ble_eq_true rfl, rfl⟩); conv => whnf)
    | ((with_reducible refine ex_step ?_); conv => whnf)
    | ((with_reducible refine both_T ?hx ?_); (case hx => first | exact rfl | assumption | exact notT (by assumption)); conv => whnf)
    | ((with_reducible refine both_F ?hx ?_); (case hx => first | exact rfl | assumption | exact notF (by assumption)); conv => whnf)
    | (revert hF; (with_reducible refine ite_step ?_ ?_) <;> (intro hc hF; conv => whnf))
    | ((with_reducible refine vc_condF ?hx ?_); (case hx => exact rfl))
    | (show retD _ _ _ _ _ _; conv => whnf)
    | ((refine inl_step ?ha ?hb ?hc rfl ?_); (case ha => exact rfl); (case hb => omega); (case hc => exact Nat.le_of_ble_eq_true rfl))
    | (show Kinl _ _ _ _ _ _ _; conv => whnf)
    | ((with_reducible refine kinl_step ?ha ?hb ?_); (case ha => exact rfl); (case hb => exact rfl); conv => whnf)
    | ((refine ⟨?hx, trivial⟩); (case hx => (cases hF; exact rfl)))
    | ((refine ⟨?hx, ?_⟩); (case hx => decide); conv => whnf)
    | with_reducible refine k_seq ?_
    | (have hF : (none : Option _) = some _ := hF; cases hF))
end
end Go.Vc
namespace Go.Vc
open Go.Proofs
set_option linter.unusedVariables false
set_option linter.unnecessarySimpa false
set_option linter.unusedSimpArgs false
section
variable {c : Ctx} {p nid : Nat} {a b : Code} {st : St} {K : Ex → St → Prop}
/- f46: tusche/tuschelaw08.list -/
def f46 (N : Nat) (a0 : List Int) : Option ((List Int)) :=
 some (a0)
def G46 (ds : List D) (d : D) : Prop := ∃ (N : Nat) (a0 : List Int) (r : (List Int)), ds = [sl_iN a0] ∧ f46 N a0 = some r ∧ d = sl_iN r
theorem G46.step {N : Nat} {a0 : List Int} {ρ : Type} {A : (List Int) → Option ρ} {q : ρ} {ds : List D} {K : D → Prop} (hd : ds = [sl_iN a0]) (h : ∀ r, A r = some q → K (sl_iN r)) (hF : (f46 N a0).bind A = some q) : ∃ d, G46 ds d ∧ K d := by
  obtain ⟨r, hr, hA⟩ := bind_some hF
  exact ⟨_, ⟨N, a0, r, hd, hr, rfl⟩, h r hA⟩
set_option maxRecDepth 20000 in
set_option maxHeartbeats 4000000 in
theorem P46 : PureOK Try.prog 46 G46 := by
  refine pure_of_vc (c := mkCtx tyTree []) rfl tyOK (ctx_nil) [[1]] 1 Try.func46 rfl rfl (by decide) (by kernel_rfl) ?_
  rintro ds d ⟨N, a0, r, rfl, hF, rfl⟩ hok
  clear hok
  refine ⟨rfl, ?_⟩
  show vc _ _ _ _ ⟨[(0, .dat (sl_iN a0))], []⟩ _
  unfold f46 at hF
  repeat' (first
    | ((with_reducible first | refine q0 _ _ ?_ | refine q1 _ _ _ _ ?_ | refine q2 _ _ _ ?_); clear Q q0 q1 q2)
    | ((with_reducible first | refine seq_op ?hx (fun Q q0 q1 q2 => ?_)); (case hx => exact rfl); conv => whnf)
    | ((with_reducible refine seq_nil ?_); (first | ((with_reducible refine hR _ ?_); clear R hR) | ((with_reducible refine hL _ ?_); clear L hL)))
    | ((with_reducible first | refine int_step ?_); conv => whnf)
    | (with_reducible first | refine vc_skip ?_ | refine vc_ret ?_ | refine vc_region (fun R hR => ?_) | refine k_seq_ret ?_)
    | ((with_reducible refine vc_seqN [] ?hx ?_); (case hx => exact rfl))
    | ((refine row_all ?hn ?_); (case hn => first | exact rfl | (simp; done) | (simp; omega)); conv => whnf)
    | ((with_reducible refine le_step ?hn ?_); (case hn => first | exact rfl | assumption | omega); conv => whnf)
    | ((refine ⟨?hx, ?_⟩); (case hx => exact ⟨rfl, Nat.le_of_ble_eq_true rfl, rfl⟩); conv => whnf)
    | ((with_reducible refine ex_step ?_); conv => whnf)
    | ((with_reducible refine both_T ?hx ?_); (case hx => first | exact rfl | assumption | exact notT (by assumption)); conv => whnf)
    | ((with_reducible refine both_F ?hx ?_); (case hx => first | exact rfl | assumption | exact notF (by assumption)); conv => whnf)
    | (revert hF; (with_reducible refine ite_step ?_ ?_) <;> (intro hc hF; conv => whnf))
    | (show retD _ _ _ _ _ _; conv => whnf)
    | ((refine ⟨?hx, trivial⟩); (case hx => (cases hF; exact rfl)))
    | ((refine ⟨?hx, ?_⟩); (case hx => decide); conv => whnf)
    | with_reducible refine k_seq ?_
    | (have hF : (none : Option _) = some _ := hF; cases hF))
end
end Go.Vc
namespace Go.Vc
open Go.Proofs
set_option linter.unusedVariables false
set_option linter.unnecessarySimpa false
set_option linter.unusedSimpArgs false
section
variable {c : Ctx} {p nid : Nat} {a b : Code} {st : St} {K : Ex → St → Prop}
/- f15: tusche/tuschelaw08.works -/
def f15 (N : Nat) : Option (Bool) :=
 (f16 N (strC [97, 98, 97, 97, 98, 97, 98, 97, 97, 98, 97])).bind fun x1 =>
 (f18 N (strC [97, 98, 97, 98])).bind fun x2 =>
 (f20 N (strC [97, 98, 97, 97, 98, 97, 97, 98, 97])).bind fun x3 =>
 (f25 N (3 : Int) (5 : Int) (6 : Int)).bind fun x4 =>
 (f27 N (strC [97, 98, 99, 97, 98])).bind fun x5 =>
 (f29 N (strC [99, 97, 98])).bind fun x6 =>
 (f31 N (strC [97, 97, 98]) (strC [97, 98, 97])).bind fun x7 =>
 (f33 N (6 : Int) (3 : Int)).bind fun x8 =>
 bif decide (¬ x1.2 = (0 : Int)) then (some (false))
 else (bif decide (¬ x2.2.2 = (0 : Int)) then (some (false))
 else (bif decide (¬ x3.2 = (0 : Int)) then (some (false))
 else (bif decide (¬ x4.2 = (0 : Int)) then (some (false))
 else (bif decide (¬ x5.2 = (0 : Int)) then (some (false))
 else (bif decide (¬ x6.2 = (0 : Int)) then (some (false))
 else (bif decide (¬ x7.2 = (0 : Int)) then (some (false))
 else (bif decide (¬ x8.2 = (0 : Int)) then (some (false))
 else ((f35 N [(strC [97, 98, 99, 97]), (strC [99, 97, 98]), (strC [98, 99, 100])]).bind fun x9 =>
 bif decide (x9.2 = (0 : Int)) then ((f46 N [(5 : Int), (8 : Int), (10 : Int), (11 : Int)]).bind fun x10 =>
 (f22 N x1.1 x10).bind fun x11 =>
 bif x11 then (bif decide (x2.1 = (strC [97, 98])) then (bif decide (x2.2.1 = (2 : Int)) then ((f46 N [(3 : Int), (6 : Int), (9 : Int)]).bind fun x12 =>
 (f22 N x3.1 x12).bind fun x13 =>
 bif x13 then (bif decide (x4.1 = (strC [97, 98, 97, 97, 98, 97])) then (bif decide (x5.1 = (strC [97, 98, 97, 97, 98])) then (bif decide (x6.1 = (strC [97, 98, 99])) then (bif x7.1 then (bif decide (x8.1 = (130 : Int)) then (bif decide (x9.1 = (strC [97, 98, 99, 97, 98, 99, 100])) then ((f23 N (strC [97, 66])).bind fun x14 =>
 some (decide (x14 = (9 : Int))))
 else (some (false)))
 else (some (false)))
 else (some (false)))
 else (some (false)))
 else (some (false)))
 else (some (false)))
 else (some (false)))
 else (some (false)))
 else (some (false)))
 else (some (false)))
 else (some (false))))))))))
def G15 (ds : List D) (d : D) : Prop := ∃ (N : Nat) (r : Bool), ds = [] ∧ f15 N  = some r ∧ d = bN r
theorem G15.lend {N : Nat} {ρ : Type} {A : Bool → Option ρ} {q : ρ} {ds : List D} {K : D → Prop} (hd : ds = []) (h : ∀ r, A r = some q → K (bN r)) (hF : (f15 N ).bind A = some q) : ∃ d, (G15 ds d ∧ d.flatB = true) ∧ K d := by
  obtain ⟨r, hr, hA⟩ := bind_some hF
  exact ⟨_, ⟨⟨N, r, hd, hr, rfl⟩, rfl⟩, h r hA⟩
theorem G15.step {N : Nat} {ρ : Type} {A : Bool → Option ρ} {q : ρ} {ds : List D} {K : D → Prop} (hd : ds = []) (h : ∀ r, A r = some q → K (bN r)) (hF : (f15 N ).bind A = some q) : ∃ d, G15 ds d ∧ K d := by
  obtain ⟨r, hr, hA⟩ := bind_some hF
  exact ⟨_, ⟨N, r, hd, hr, rfl⟩, h r hA⟩
set_option maxRecDepth 20000 in
set_option maxHeartbeats 4000000 in
theorem P15 : PureOK Try.prog 15 G15 := by
  refine pure_of_vc (c := mkCtx tyTree [(46, true, purePg [[1]] G46), (35, true, lendPg [[1]] G35), (33, true, lendPg [[0], [0]] G33), (31, true, lendPg [[0], [0]] G31), (29, true, lendPg [[0]] G29), (27, true, lendPg [[0]] G27), (25, true, lendPg [[0], [0], [0]] G25), (23, true, lendPg [[0]] G23), (22, true, lendPg [[1], [1]] G22), (20, true, purePg [[0]] G20), (18, true, lendPg [[0]] G18), (16, true, purePg [[0]] G16)]) rfl tyOK (ctx_cons (callable Try.func46 rfl rfl) P46 (ctx_lend (callable Try.func35 rfl rfl) P35 (ctx_lend (callable Try.func33 rfl rfl) P33 (ctx_lend (callable Try.func31 rfl rfl) P31 (ctx_lend (callable Try.func29 rfl rfl) P29 (ctx_lend (callable Try.func27 rfl rfl) P27 (ctx_lend (callable Try.func25 rfl rfl) P25 (ctx_lend (callable Try.func23 rfl rfl) P23 (ctx_lend (callable Try.func22 rfl rfl) P22 (ctx_cons (callable Try.func20 rfl rfl) P20 (ctx_lend (callable Try.func18 rfl rfl) P18 (ctx_cons (callable Try.func16 rfl rfl) P16 (ctx_nil))))))))))))) [[0]] 0 Try.func15 rfl rfl (by decide) (by kernel_rfl) ?_
  rintro ds d ⟨N, r, rfl, hF, rfl⟩ hok
  clear hok
  refine ⟨rfl, ?_⟩
  show vc _ _ _ _ ⟨[], []⟩ _
  unfold f15 at hF
  repeat' (first
    | ((with_reducible first | refine q0 _ _ ?_ | refine q1 _ _ _ _ ?_ | refine q2 _ _ _ ?_); clear Q q0 q1 q2)
    | ((with_reducible first | refine seq_op ?hx (fun Q q0 q1 q2 => ?_)); (case hx => exact rfl); conv => whnf)
    | ((with_reducible first | refine seq_off ?hx ?_ | refine seq_off0 ?hx ?_ | refine k_blk_out ?hx ?_ | refine vc_condT ?hx ?_); (case hx => exact rfl))
    | ((with_reducible refine seq_id ?_); (first | ((first | refine seq_opK rfl ?hy (fun Q q0 q1 q2 => ?_) | refine seq_opK0 rfl ?hy (fun Q q0 q1 q2 => ?_)); (case hy => first | assumption | exact notT (by assumption) | exact rfl); conv => whnf) | ((first | refine seq_offK rfl ?hy ?_ | refine seq_offK0 rfl ?hy ?_); (case hy => first | assumption | exact notF (by assumption) | exact rfl)) | (revert hF; (with_reducible first | refine seq_opF ?hx ?_ ?_ | refine seq_opF0 ?hx ?_ ?_); (case hx => exact rfl); (intro hc hF Q q0 q1 q2; conv => whnf); rotate_left; (intro hc hF); rotate_right) | (revert hF; (with_reducible first | refine seq_opN ?hx ?_ ?_ | refine seq_opN0 ?hx ?_ ?_); (case hx => exact rfl); (intro hc hF); rotate_left; (intro hc hF Q q0 q1 q2; conv => whnf); rotate_right)))
    | ((with_reducible refine cond_id ?_); (first | ((refine condKT rfl ?hy ?_); (case hy => first | assumption | exact notT (by assumption) | exact rfl)) | ((refine condKF rfl ?hy ?_); (case hy => first | assumption | exact notF (by assumption) | exact rfl)) | (revert hF; (with_reducible refine condF ?hx ?_ ?_); (case hx => exact rfl); all_goals (intro hc hF))))
    | ((with_reducible refine seq_nil ?_); (first | ((with_reducible refine hR _ ?_); clear R hR) | ((with_reducible refine hL _ ?_); clear L hL)))
    | ((with_reducible first | refine int_step ?_); conv => whnf)
    | (with_reducible first | refine vc_block ?_ | refine vc_skip ?_ | refine vc_ret ?_ | refine vc_exit ?_ | refine vc_region (fun R hR => ?_) | refine k_seq_ret ?_ | refine k_seq_exit ?_ | refine k_blk ?_ | refine k_blk_ret ?_ | refine k_blk_here ?_)
    | ((with_reducible refine vc_seqN [] ?hx ?_); (case hx => exact rfl))
    | (revert hF; (with_reducible refine G16.step ?hx ?_); (case hx => exact rfl); intro v hF; conv => whnf)
    | (revert hF; (with_reducible refine G18.lend ?hx ?_); (case hx => exact rfl); intro v hF; conv => whnf)
    | (revert hF; (with_reducible refine G20.step ?hx ?_); (case hx => exact rfl); intro v hF; conv => whnf)
    | (revert hF; (with_reducible refine G22.lend ?hx ?_); (case hx => exact rfl); intro v hF; conv => whnf)
    | (revert hF; (with_reducible refine G23.lend ?hx ?_); (case hx => exact rfl); intro v hF; conv => whnf)
    | (revert hF; (with_reducible refine G25.lend ?hx ?_); (case hx => exact rfl); intro v hF; conv => whnf)
    | (revert hF; (with_reducible refine G27.lend ?hx ?_); (case hx => exact rfl); intro v hF; conv => whnf)
    | (revert hF; (with_reducible refine G29.lend ?hx ?_); (case hx => exact rfl); intro v hF; conv => whnf)
    | (revert hF; (with_reducible refine G31.lend ?hx ?_); (case hx => exact rfl); intro v hF; conv => whnf)
    | (revert hF; (with_reducible refine G33.lend ?hx ?_); (case hx => exact rfl); intro v hF; conv => whnf)
    | (revert hF; (with_reducible refine G35.lend ?hx ?_); (case hx => exact rfl); intro v hF; conv => whnf)
    | (revert hF; (with_reducible refine G46.step ?hx ?_); (case hx => exact rfl); intro v hF; conv => whnf)
    | ((refine row_all ?hn ?_); (case hn => first | exact rfl | (simp; done) | (simp; omega)); conv => whnf)
    | ((with_reducible refine le_step ?hn ?_); (case hn => first | exact rfl | assumption | omega); conv => whnf)
    | ((refine ⟨?hx, ?_⟩); (case hx => exact ⟨rfl, Nat.le_of_ble_eq_true rfl, rfl⟩); conv => whnf)
    | ((with_reducible refine ex_step ?_); conv => whnf)
    | ((with_reducible refine both_T ?hx ?_); (case hx => first | exact rfl | assumption | exact notT (by assumption)); conv => whnf)
    | ((with_reducible refine both_F ?hx ?_); (case hx => first | exact rfl | assumption | exact notF (by assumption)); conv => whnf)
    | (revert hF; (with_reducible refine ite_step ?_ ?_) <;> (intro hc hF; conv => whnf))
    | ((with_reducible refine vc_condF ?hx ?_); (case hx => exact rfl))
    | (show retD _ _ _ _ _ _; conv => whnf)
    | ((refine ⟨?hx, trivial⟩); (case hx => (cases hF; exact rfl)))
    | ((refine ⟨?hx, ?_⟩); (case hx => decide); conv => whnf)
    | with_reducible refine k_seq ?_
    | (have hF : (none : Option _) = some _ := hF; cases hF))
end
end Go.Vc

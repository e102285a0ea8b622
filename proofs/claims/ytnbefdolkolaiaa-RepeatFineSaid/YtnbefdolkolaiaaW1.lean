/-
  A library for proofs about Go functions by symbolic evaluation, and plain Lean functions that the walked Go functions compute (written by a program of this claim).
-/
import Derived.Test.YtnbefdolkolaiaaVc3
import Derived.Test.YtnbefdolkolaiaaProg
import Derived.Shelf.Strings.Builder1
import Derived.Shelf.Strings.Builder2
import Derived.Shelf.Strings.OnBuilder
import Derived.Shelf.Small.Bits
import Derived.Shelf.Strconv.Itoa0
import Derived.Shelf.Strings.Search1
import Derived.Shelf.Strings.Search2
import Derived.Shelf.Strings.Search3
import Derived.Shelf.LaysM
import Derived.Shelf.Strings.Shaped
import Derived.Shelf.Strings.LastIndex
import Derived.Shelf.Strings.LastIndexAll
import Derived.Shelf.Strings.Prefix
import Derived.Shelf.Slices.Equal
import Derived.Shelf.Slices.Empties2
import Derived.Shelf.SlGeneric
import Derived.Ground.GgzProg
import Derived.Shelf.SlIterI.Collect
import Derived.RangeFuncBox
import Derived.RangeFuncLeaves
import Derived.RangeFuncFrom
import Derived.Shelf.Abstract
import Derived.Shelf.RegionOpen
import Derived.WalkKit
import Derived.OwnWalkIn
import Derived.TacticsInMore
import Derived.LoopNIn
import Derived.LoopIn
import Derived.Maps.AppendAt
import Derived.RangeFuncNested
namespace Go.Vc
open Go.Proofs
set_option maxRecDepth 20000
def tyTree : Tree (Option TI) :=
  (.node (.node (.node (.node (.node (.node (.node (.node .leaf (some ⟨.fn, 1, 8, false, [0], [.nilFunc]⟩) .leaf) (some ⟨(.slice 54 1 false), 1, 24, false, [1], [.slice none 0 0]⟩) (.node .leaf none .leaf)) (some ⟨.fn, 1, 8, false, [0], [.nilFunc]⟩) (.node (.node .leaf none .leaf) (some ⟨.fn, 1, 8, false, [0], [.nilFunc]⟩) (.node .leaf (some ⟨(.arr 0 1 false), 0, 0, true, [], []⟩) .leaf))) (some ⟨.ptr, 1, 8, false, [0], [.pointer none]⟩) (.node (.node (.node .leaf none .leaf) (some ⟨.fn, 1, 8, false, [0], [.nilFunc]⟩) (.node .leaf none .leaf)) none (.node (.node .leaf (some ⟨.fn, 1, 8, false, [0], [.nilFunc]⟩) .leaf) (some ⟨.fn, 1, 8, false, [0], [.nilFunc]⟩) (.node .leaf none .leaf)))) none (.node (.node (.node (.node .leaf none .leaf) (some ⟨.fn, 1, 8, false, [0], [.nilFunc]⟩) (.node .leaf (some ⟨.fn, 1, 8, false, [0], [.nilFunc]⟩) .leaf)) (some ⟨.fn, 1, 8, false, [0], [.nilFunc]⟩) (.node (.node .leaf none .leaf) (some ⟨.fn, 1, 8, false, [0], [.nilFunc]⟩) (.node .leaf none .leaf))) (some ⟨.ptr, 1, 8, false, [0], [.pointer none]⟩) (.node (.node (.node .leaf (some ⟨(.struct [(0, 1, false), (1, 1, false), (2, 1, false), (3, 1, false), (4, 1, false), (5, 1, false), (6, 1, false), (7, 1, false), (8, 1, false), (9, 1, false), (10, 1, false)]), 11, 48, true, [0, 0, 0, 0, 0, 0, 0, 0, 0, 0, 0], [.int .u64 0, .int .u64 0, .int .u32 0, .int .u8 0, .int .u8 0, .int .u8 0, .int .u8 0, .nilFunc, .pointer none, .int .i32 0, .int .i32 0]⟩) .leaf) (some ⟨.fn, 1, 8, false, [0], [.nilFunc]⟩) (.node .leaf none .leaf)) (some ⟨.fn, 1, 8, false, [0], [.nilFunc]⟩) (.node .leaf (some ⟨.fn, 1, 8, false, [0], [.nilFunc]⟩) .leaf)))) (some ⟨(.int .i64), 1, 8, false, [0], [.int .i64 0]⟩) (.node (.node (.node (.node .leaf (some ⟨.fn, 1, 8, false, [0], [.nilFunc]⟩) .leaf) (some ⟨.fn, 1, 8, false, [0], [.nilFunc]⟩) (.node .leaf (some ⟨.fn, 1, 8, false, [0], [.nilFunc]⟩) .leaf)) (some ⟨.ptr, 1, 8, false, [0], [.pointer none]⟩) (.node (.node .leaf (some ⟨.fn, 1, 8, false, [0], [.nilFunc]⟩) .leaf) none (.node .leaf (some ⟨.fn, 1, 8, false, [0], [.nilFunc]⟩) .leaf))) none (.node (.node (.node .leaf (some ⟨(.mp 3 3), 1, 8, false, [0], [.map none]⟩) .leaf) (some ⟨.fn, 1, 8, false, [0], [.nilFunc]⟩) (.node .leaf (some ⟨.fn, 1, 8, false, [0], [.nilFunc]⟩) .leaf)) none (.node (.node .leaf (some ⟨.fn, 1, 8, false, [0], [.nilFunc]⟩) .leaf) none (.node .leaf (some ⟨.fn, 1, 8, false, [0], [.nilFunc]⟩) .leaf))))) (some ⟨.fn, 1, 8, false, [0], [.nilFunc]⟩) (.node (.node (.node (.node (.node .leaf (some ⟨.fn, 1, 8, false, [0], [.nilFunc]⟩) .leaf) (some ⟨.fn, 1, 8, false, [0], [.nilFunc]⟩) (.node .leaf (some ⟨.fn, 1, 8, false, [0], [.nilFunc]⟩) .leaf)) none (.node (.node .leaf (some ⟨.fn, 1, 8, false, [0], [.nilFunc]⟩) .leaf) (some ⟨.fn, 1, 8, false, [0], [.nilFunc]⟩) (.node .leaf (some ⟨.fn, 1, 8, false, [0], [.nilFunc]⟩) .leaf))) (some ⟨.str, 1, 16, false, [0], [.string ⟨#[]⟩]⟩) (.node (.node (.node .leaf (some ⟨.fn, 1, 8, false, [0], [.nilFunc]⟩) .leaf) (some ⟨(.slice 9 1 false), 1, 24, false, [1], [.slice none 0 0]⟩) (.node .leaf (some ⟨.fn, 1, 8, false, [0], [.nilFunc]⟩) .leaf)) (some ⟨.iface, 1, 16, false, [0], [.nilIface]⟩) (.node (.node .leaf (some ⟨.fn, 1, 8, false, [0], [.nilFunc]⟩) .leaf) (some ⟨.fn, 1, 8, false, [0], [.nilFunc]⟩) (.node .leaf (some ⟨(.int .u64), 1, 8, false, [0], [.int .u64 0]⟩) .leaf)))) (some ⟨.bool, 1, 1, false, [0], [.bool false]⟩) (.node (.node (.node (.node .leaf (some ⟨.fn, 1, 8, false, [0], [.nilFunc]⟩) .leaf) (some ⟨.fn, 1, 8, false, [0], [.nilFunc]⟩) (.node .leaf (some ⟨.ptr, 1, 8, false, [0], [.pointer none]⟩) .leaf)) (some ⟨(.int .i32), 1, 4, false, [0], [.int .i32 0]⟩) (.node (.node .leaf (some ⟨(.struct [(0, 1, false), (1, 1, false)]), 2, 32, true, [0, 1], [.pointer none, .slice none 0 0]⟩) .leaf) (some ⟨(.arr 3 1 false), 3, 3, true, [0, 0, 0], [.int .u8 0, .int .u8 0, .int .u8 0]⟩) (.node .leaf (some ⟨(.struct [(0, 1, false), (1, 1, false)]), 2, 32, true, [0, 1], [.pointer none, .slice none 0 0]⟩) .leaf))) none (.node (.node (.node .leaf (some ⟨.iface, 1, 16, false, [0], [.nilIface]⟩) .leaf) (some ⟨(.arr 24 1 false), 24, 24, true, [0, 0, 0, 0, 0, 0, 0, 0, 0, 0, 0, 0, 0, 0, 0, 0, 0, 0, 0, 0, 0, 0, 0, 0], [.int .u8 0, .int .u8 0, .int .u8 0, .int .u8 0, .int .u8 0, .int .u8 0, .int .u8 0, .int .u8 0, .int .u8 0, .int .u8 0, .int .u8 0, .int .u8 0, .int .u8 0, .int .u8 0, .int .u8 0, .int .u8 0, .int .u8 0, .int .u8 0, .int .u8 0, .int .u8 0, .int .u8 0, .int .u8 0, .int .u8 0, .int .u8 0]⟩) (.node .leaf (some ⟨.iface, 1, 16, false, [0], [.nilIface]⟩) .leaf)) (some ⟨.fn, 1, 8, false, [0], [.nilFunc]⟩) (.node (.node .leaf none .leaf) (some ⟨.fn, 1, 8, false, [0], [.nilFunc]⟩) (.node .leaf (some ⟨.fn, 1, 8, false, [0], [.nilFunc]⟩) .leaf)))))) none (.node (.node (.node (.node (.node (.node .leaf (some ⟨.fn, 1, 8, false, [0], [.nilFunc]⟩) .leaf) (some ⟨.fn, 1, 8, false, [0], [.nilFunc]⟩) (.node .leaf (some ⟨(.slice 41 1 false), 1, 24, false, [1], [.slice none 0 0]⟩) .leaf)) (some ⟨(.slice 3 1 false), 1, 24, false, [1], [.slice none 0 0]⟩) (.node (.node .leaf (some ⟨.fn, 1, 8, false, [0], [.nilFunc]⟩) .leaf) (some ⟨(.slice 5 1 false), 1, 24, false, [1], [.slice none 0 0]⟩) (.node .leaf (some ⟨.fn, 1, 8, false, [0], [.nilFunc]⟩) .leaf))) none (.node (.node (.node .leaf (some ⟨.fn, 1, 8, false, [0], [.nilFunc]⟩) .leaf) (some ⟨.fn, 1, 8, false, [0], [.nilFunc]⟩) (.node .leaf (some ⟨.fn, 1, 8, false, [0], [.nilFunc]⟩) .leaf)) (some ⟨(.int .i64), 1, 8, false, [0], [.int .i64 0]⟩) (.node (.node .leaf (some ⟨(.int .i64), 1, 8, false, [0], [.int .i64 0]⟩) .leaf) (some ⟨.fn, 1, 8, false, [0], [.nilFunc]⟩) (.node .leaf none .leaf)))) (some ⟨(.int .u8), 1, 1, false, [0], [.int .u8 0]⟩) (.node (.node (.node (.node .leaf (some ⟨.fn, 1, 8, false, [0], [.nilFunc]⟩) .leaf) (some ⟨(.mp 5 4), 1, 8, false, [0], [.map none]⟩) (.node .leaf (some ⟨.fn, 1, 8, false, [0], [.nilFunc]⟩) .leaf)) none (.node (.node .leaf (some ⟨.fn, 1, 8, false, [0], [.nilFunc]⟩) .leaf) (some ⟨.fn, 1, 8, false, [0], [.nilFunc]⟩) (.node .leaf none .leaf))) (some ⟨(.int .u64), 1, 8, false, [0], [.int .u64 0]⟩) (.node (.node (.node .leaf (some ⟨.fn, 1, 8, false, [0], [.nilFunc]⟩) .leaf) (some ⟨.fn, 1, 8, false, [0], [.nilFunc]⟩) (.node .leaf (some ⟨.fn, 1, 8, false, [0], [.nilFunc]⟩) .leaf)) (some ⟨.fn, 1, 8, false, [0], [.nilFunc]⟩) (.node (.node .leaf (some ⟨(.int .u32), 1, 4, false, [0], [.int .u32 0]⟩) .leaf) (some ⟨(.slice 5 1 false), 1, 24, false, [1], [.slice none 0 0]⟩) (.node .leaf (some ⟨.fn, 1, 8, false, [0], [.nilFunc]⟩) .leaf))))) (some ⟨(.int .i64), 1, 8, false, [0], [.int .i64 0]⟩) (.node (.node (.node (.node (.node .leaf (some ⟨(.int .u64), 1, 8, false, [0], [.int .u64 0]⟩) .leaf) (some ⟨.fn, 1, 8, false, [0], [.nilFunc]⟩) (.node .leaf (some ⟨.ptr, 1, 8, false, [0], [.pointer none]⟩) .leaf)) none (.node (.node .leaf none .leaf) (some ⟨.fn, 1, 8, false, [0], [.nilFunc]⟩) (.node .leaf (some ⟨.fn, 1, 8, false, [0], [.nilFunc]⟩) .leaf))) none (.node (.node (.node .leaf (some ⟨.fn, 1, 8, false, [0], [.nilFunc]⟩) .leaf) (some ⟨(.slice 4 1 false), 1, 24, false, [1], [.slice none 0 0]⟩) (.node .leaf (some ⟨(.int .u64), 1, 8, false, [0], [.int .u64 0]⟩) .leaf)) (some ⟨.fn, 1, 8, false, [0], [.nilFunc]⟩) (.node (.node .leaf (some ⟨.fn, 1, 8, false, [0], [.nilFunc]⟩) .leaf) (some ⟨.fn, 1, 8, false, [0], [.nilFunc]⟩) (.node .leaf (some ⟨.fn, 1, 8, false, [0], [.nilFunc]⟩) .leaf)))) none (.node (.node (.node (.node .leaf (some ⟨.fn, 1, 8, false, [0], [.nilFunc]⟩) .leaf) (some ⟨(.mp 9 4), 1, 8, false, [0], [.map none]⟩) (.node .leaf (some ⟨.ptr, 1, 8, false, [0], [.pointer none]⟩) .leaf)) (some ⟨.fn, 1, 8, false, [0], [.nilFunc]⟩) (.node (.node .leaf (some ⟨.fn, 1, 8, false, [0], [.nilFunc]⟩) .leaf) (some ⟨.fn, 1, 8, false, [0], [.nilFunc]⟩) (.node .leaf none .leaf))) none (.node (.node (.node .leaf (some ⟨.fn, 1, 8, false, [0], [.nilFunc]⟩) .leaf) (some ⟨(.arr 2 1 false), 2, 2, true, [0, 0], [.int .u8 0, .int .u8 0]⟩) (.node .leaf (some ⟨.fn, 1, 8, false, [0], [.nilFunc]⟩) .leaf)) (some ⟨.fn, 1, 8, false, [0], [.nilFunc]⟩) (.node (.node .leaf (some ⟨.ptr, 1, 8, false, [0], [.pointer none]⟩) .leaf) (some ⟨.fn, 1, 8, false, [0], [.nilFunc]⟩) (.node .leaf none .leaf)))))))
theorem tyOK : TyOK Try.prog tyTree := ty_ok (by kernel_rfl)
end Go.Vc
namespace Go.Vc
open Go.Proofs
set_option linter.unusedVariables false
set_option linter.unnecessarySimpa false
set_option linter.unusedSimpArgs false
structure A3u8N where
  e0 : Int
  e1 : Int
  e2 : Int
  deriving DecidableEq, Inhabited
def A3u8N.d (x : A3u8N) : D := .agg [u8N x.e0, u8N x.e1, u8N x.e2]
structure A24u8N where
  e0 : Int
  e1 : Int
  e2 : Int
  e3 : Int
  e4 : Int
  e5 : Int
  e6 : Int
  e7 : Int
  e8 : Int
  e9 : Int
  e10 : Int
  e11 : Int
  e12 : Int
  e13 : Int
  e14 : Int
  e15 : Int
  e16 : Int
  e17 : Int
  e18 : Int
  e19 : Int
  e20 : Int
  e21 : Int
  e22 : Int
  e23 : Int
  deriving DecidableEq, Inhabited
def A24u8N.d (x : A24u8N) : D := .agg [u8N x.e0, u8N x.e1, u8N x.e2, u8N x.e3, u8N x.e4, u8N x.e5, u8N x.e6, u8N x.e7, u8N x.e8, u8N x.e9, u8N x.e10, u8N x.e11, u8N x.e12, u8N x.e13, u8N x.e14, u8N x.e15, u8N x.e16, u8N x.e17, u8N x.e18, u8N x.e19, u8N x.e20, u8N x.e21, u8N x.e22, u8N x.e23]
structure A2u8N where
  e0 : Int
  e1 : Int
  deriving DecidableEq, Inhabited
def A2u8N.d (x : A2u8N) : D := .agg [u8N x.e0, u8N x.e1]
def sl_iN (l : List Int) : D := .sl 1 (l.map iN)
def sl_strN (l : List ByteArray) : D := .sl 1 (l.map strN)
def sl_u8N (l : List Int) : D := .sl 1 (l.map u8N)
def sl_sl_strN (l : List (List ByteArray)) : D := .sl 1 (l.map sl_strN)
def sl_bN (l : List Bool) : D := .sl 1 (l.map bN)
def sl_sl_u8N (l : List (List Int)) : D := .sl 1 (l.map sl_u8N)
end Go.Vc
namespace Go.Vc
open Go.Proofs
set_option linter.unusedVariables false
set_option linter.unnecessarySimpa false
set_option linter.unusedSimpArgs false
section
variable {c : Ctx} {p nid : Nat} {a b : Code} {st : St} {K : Ex → St → Prop}
/- f23: tusche/repeat.Check -/
def f23_c10 : Option (Int) :=
 some ((0 : Int))
def Lf23_c10 : Lp (Unit) Unit (Int) := lp0 ⟨[], [], [], []⟩ (fun _ => []) (fun _ => []) (fun _ => f23_c10)
theorem Ef23_c10 : (Lf23_c10).E () = f23_c10 := rfl
def f23_6b (r6 : Nat → Option (Int)) (a0 : ByteArray) (k0 : Option (Int)) (p501 : Nat) : Option (Int) :=
 bif decide (p501 < ByteArray.size a0) then ((some (runeAt a0 p501)).bind fun x1 =>
 bif decide (x1.1 < (97 : Int)) then (some ((9 : Int)))
 else (bif decide ((122 : Int) < x1.1) then (some ((9 : Int)))
 else (r6 x1.2)))
 else k0
def f23_6 (a0 : ByteArray) (k0 : Option (Int)) : Nat → Nat → Option (Int)
  | 0, _ => none
  | n + 1, p501 => f23_6b (f23_6 a0 k0 n) a0 k0 p501
def Lf23_6 (a0 : ByteArray) (k0 : Option (Int)) : Lp (Nat × Nat) Unit (Int) := lp0 ⟨[13], [501], [], []⟩ (fun (_, _) => [.ptr 501 0]) (fun (_, p501) => [.sit a0 p501]) (fun (n, p501) => f23_6 a0 k0 n p501)
theorem Ef23_6 {a0 k0 n p501} : (Lf23_6 a0 k0).E (n, p501) = f23_6 a0 k0 n p501 := rfl
def f23 (N : Nat) (a0 : ByteArray) : Option (Int) :=
 bif decide (a0 = emptyS) then (some ((1 : Int)))
 else (bif decide ((24 : Int) < (ByteArray.size a0 : Int)) then (some ((19 : Int)))
 else (joinK f23_c10 fun k0 =>
 f23_6 a0 k0 N 0))
def G23 (ds : List D) (d : D) : Prop := ∃ (N : Nat) (a0 : ByteArray) (r : Int), ds = [strN a0] ∧ f23 N a0 = some r ∧ d = iN r
theorem G23.lend {N : Nat} {a0 : ByteArray} {ρ : Type} {A : Int → Option ρ} {q : ρ} {ds : List D} {K : D → Prop} (hd : ds = [strN a0]) (h : ∀ r, A r = some q → K (iN r)) (hF : (f23 N a0).bind A = some q) : ∃ d, (G23 ds d ∧ d.flatB = true) ∧ K d := by
  obtain ⟨r, hr, hA⟩ := bind_some hF
  exact ⟨_, ⟨⟨N, a0, r, hd, hr, rfl⟩, rfl⟩, h r hA⟩
theorem G23.step {N : Nat} {a0 : ByteArray} {ρ : Type} {A : Int → Option ρ} {q : ρ} {ds : List D} {K : D → Prop} (hd : ds = [strN a0]) (h : ∀ r, A r = some q → K (iN r)) (hF : (f23 N a0).bind A = some q) : ∃ d, G23 ds d ∧ K d := by
  obtain ⟨r, hr, hA⟩ := bind_some hF
  exact ⟨_, ⟨N, a0, r, hd, hr, rfl⟩, h r hA⟩
set_option maxRecDepth 20000 in
set_option maxHeartbeats 4000000 in
theorem P23 : PureOK Try.prog 23 G23 := by
  refine pure_of_vc (c := mkCtx tyTree []) rfl tyOK (ctx_nil) [[0]] 1 Try.func23 rfl rfl (by decide) (by kernel_rfl) ?_
  rintro ds d ⟨N, a0, r, rfl, hF, rfl⟩ hok
  clear hok
  refine ⟨rfl, ?_⟩
  show vc _ _ _ _ ⟨[(0, .dat (strN a0))], []⟩ _
  unfold f23 at hF
  repeat' (first
    | ((with_reducible first | refine q0 _ _ ?_ | refine q1 _ _ _ _ ?_ | refine q2 _ _ _ ?_); clear Q q0 q1 q2)
    | ((with_reducible first | refine seq_op ?hx (fun Q q0 q1 q2 => ?_)); (case hx => exact rfl); conv => whnf)
    | ((with_reducible first | refine seq_off ?hx ?_ | refine seq_off0 ?hx ?_ | refine k_blk_out ?hx ?_ | refine vc_condT ?hx ?_); (case hx => exact rfl))
    | ((with_reducible refine seq_id ?_); (first | ((first | refine seq_opK rfl ?hy (fun Q q0 q1 q2 => ?_) | refine seq_opK0 rfl ?hy (fun Q q0 q1 q2 => ?_)); (case hy => first | assumption | exact notT (by assumption) | exact rfl); conv => whnf) | ((first | refine seq_offK rfl ?hy ?_ | refine seq_offK0 rfl ?hy ?_); (case hy => first | assumption | exact notF (by assumption) | exact rfl)) | (revert hF; (with_reducible first | refine seq_opF ?hx ?_ ?_ | refine seq_opF0 ?hx ?_ ?_); (case hx => exact rfl); (intro hc hF Q q0 q1 q2; conv => whnf); rotate_left; (intro hc hF); rotate_right) | (revert hF; (with_reducible first | refine seq_opN ?hx ?_ ?_ | refine seq_opN0 ?hx ?_ ?_); (case hx => exact rfl); (intro hc hF); rotate_left; (intro hc hF Q q0 q1 q2; conv => whnf); rotate_right)))
    | ((with_reducible refine cond_id ?_); (first | ((refine condKT rfl ?hy ?_); (case hy => first | assumption | exact notT (by assumption) | exact rfl)) | ((refine condKF rfl ?hy ?_); (case hy => first | assumption | exact notF (by assumption) | exact rfl)) | (revert hF; (with_reducible refine condF ?hx ?_ ?_); (case hx => exact rfl); all_goals (intro hc hF))))
    | ((with_reducible refine seq_nil ?_); (first | ((with_reducible refine hR _ ?_); clear R hR) | ((with_reducible refine hL _ ?_); clear L hL)))
    | ((with_reducible first | refine int_step ?_); conv => whnf)
    | (with_reducible first | refine vc_block ?_ | refine vc_skip ?_ | refine vc_ret ?_ | refine vc_exit ?_ | refine vc_region (fun R hR => ?_) | refine k_seq_ret ?_ | refine k_seq_exit ?_ | refine k_blk ?_ | refine k_blk_ret ?_ | refine k_blk_here ?_ | refine k_loop_ret ?_ | refine k_loop_exit ?_)
    | ((with_reducible refine vc_seqN [10] ?hx ?_); (case hx => exact rfl))
    | (revert hF; (refine Lp.cut0 Lf23_c10 f23_c10 10 rfl rfl ?_ ?_); (intro hF); rotate_left; (rintro _ hF; dsimp only [Lf23_c10] at hF; unfold f23_c10 at hF); rotate_right)
    | exact Lp.head Ef23_c10 hF () ⟨_, rfl, rfl, rfl, rfl⟩ rfl
    | (revert hF; (refine Lp.loop Ef23_6 () rfl ⟨_, rfl, rfl, rfl, rfl⟩ rfl (fun _ => rfl) ?_); rintro n p501 hF; dsimp only [Lf23_6, f23_6] at hF; unfold f23_6b at hF)
    | exact Lp.back Ef23_6 hF () ⟨_, rfl, rfl, rfl, rfl⟩ rfl
    | (revert hF; (refine some_step ?_); intro x hF; conv => whnf)
    | ((refine row_all ?hn ?_); (case hn => first | exact rfl | (simp; done) | (simp; omega)); conv => whnf)
    | ((with_reducible refine le_step ?hn ?_); (case hn => first | exact rfl | assumption | omega); conv => whnf)
    | ((refine ⟨?hx, ?_⟩); (case hx => exact ⟨rfl, Nat.le_of_ble_eq_true rfl, rfl⟩); conv => whnf)
    | ((with_reducible refine ex_step ?_); conv => whnf)
    | ((with_reducible refine both_T ?hx ?_); (case hx => first | exact rfl | assumption | exact notT (by assumption)); conv => whnf)
    | ((with_reducible refine both_F ?hx ?_); (case hx => first | exact rfl | assumption | exact notF (by assumption)); conv => whnf)
    | (revert hF; (with_reducible refine ite_step ?_ ?_) <;> (intro hc hF; conv => whnf))
    | ((with_reducible refine vc_condF ?hx ?_); (case hx => exact rfl))
    | (show retD _ _ _ _ _ _; conv => whnf)
    | ((refine ⟨?hx, trivial⟩); (case hx => (cases hF; exact rfl)))
    | ((refine ⟨?hx, ?_⟩); (case hx => decide); conv => whnf)
    | with_reducible refine k_seq ?_
    | (have hF : (none : Option _) = some _ := hF; cases hF))
end
end Go.Vc
/-
  DERIVED: THE SHELF's CONTRACTS AT THIS DUMP, IN PLAIN WORDS (tools/lay-plain.mjs out of 'TryKs.lean', which tools/lay-shelf.mjs wrote): THE SAME DECLARATIONS UNDER THE SAME NAMES: 'import', 'namespace', 'open', 'def', 'theorem' AND NOTHING ELSE: no command of the shelf's: FOR A HAND-IN. Each laying: the table of numbers ('.._ren') and one theorem, a field a fact of the dump's own or the kernel's comparison; each contract: ONE APPLICATION.
-/
namespace Go.Proofs
open Go.Shelf
def Try.lays156_ren : Go.Shelf.Ren := ⟨fun | 156 => 62 | 165 => 76 | 166 => 77 | 169 => 78 | 240 => 96 | 241 => 97 | 276 => 110 | 277 => 111 | n => n, fun | 31 => 41 | 9 => 9 | 3 => 3 | 4 => 4 | 0 => 0 | 20 => 20 | 72 => 90 | 76 => 93 | 70 => 88 | 37 => 48 | 75 => 92 | 127 => 112 | 164 => 122 | 5 => 5 | 80 => 95 | n => n, fun | n => n⟩
theorem Try.lays156 : Go.Proofs.Lays.n156 Try.prog Try.lays156_ren := {
  mixed := by kernel_rfl
  f156 := Try.func62.trans (congrArg some (by kernel_rfl))
  f165 := Try.func76.trans (congrArg some (by kernel_rfl))
  f166 := Try.func77.trans (congrArg some (by kernel_rfl))
  f169 := Try.func78.trans (congrArg some (by kernel_rfl))
  f240 := Try.func96.trans (congrArg some (by kernel_rfl))
  f241 := Try.func97.trans (congrArg some (by kernel_rfl))
  f276 := Try.func110.trans (congrArg some (by kernel_rfl))
  f277 := Try.func111.trans (congrArg some (by kernel_rfl))
  t0 := Try.underlying0
  a0 := Try.isAgg0
  z0 := Try.sizeOf0
  v0 := Try.zeroValue0
  t3 := Try.underlying3
  a3 := Try.isAgg3
  z3 := Try.sizeOf3
  v3 := Try.zeroValue3
  t4 := Try.underlying4
  a4 := Try.isAgg4
  z4 := Try.sizeOf4
  v4 := Try.zeroValue4
  t9 := Try.underlying9
  a9 := Try.isAgg9
  z9 := Try.sizeOf9
  v9 := Try.zeroValue9
  t20 := Try.underlying20
  a20 := Try.isAgg20
  z20 := Try.sizeOf20
  v20 := Try.zeroValue20
  t31 := Try.underlying41
  a31 := Try.isAgg41
  z31 := Try.sizeOf41
  v31 := Try.zeroValue41
  t37 := Try.underlying48
  a37 := Try.isAgg48
  z37 := Try.sizeOf48
  v37 := Try.zeroValue48
  t70 := Try.underlying88
  a70 := Try.isAgg88
  z70 := Try.sizeOf88
  v70 := Try.zeroValue88
  t72 := Try.underlying90
  a72 := Try.isAgg90
  z72 := Try.sizeOf90
  v72 := Try.zeroValue90
  t75 := Try.underlying92
  a75 := Try.isAgg92
  z75 := Try.sizeOf92
  v75 := Try.zeroValue92
  t76 := Try.underlying93
  a76 := Try.isAgg93
  z76 := Try.sizeOf93
  v76 := Try.zeroValue93
  t127 := Try.underlying112
  a127 := Try.isAgg112
  z127 := Try.sizeOf112
  v127 := Try.zeroValue112
  t164 := Try.underlying122
  a164 := Try.isAgg122
  z164 := Try.sizeOf122
  v164 := Try.zeroValue122 }
theorem Try.Builder_Extra_156 : Builder.Extra Try.prog Try.lays156_ren := {
  sizeBuilder := by kernel_rfl
  liesBuilder := by kernel_rfl
  t5 := Try.underlying5
  a5 := Try.isAgg5
  z5 := Try.sizeOf5
  v5 := Try.zeroValue5
  infoByte := by kernel_rfl
  cellsByte := by kernel_rfl
  sizeByte := by kernel_rfl
  neB5 := by decide }
open Go.RowKit in
/-- No element: the empty string; the world is as it was. (Whatever the slice's address and capacity: a nil slice too.) (LAID: no walk: one application.) -/
theorem Try.strings_Join_none (a : Option Addr) (c : Nat) (sep : ByteArray) (w : World) :
    Calls Try.prog 62 #[.slice a 0 c, .string sep] w fun e w' => e = .returned (.string ⟨#[]⟩) ∧ w' = w := Any.strings_Join_none Try.lays156 Try.Builder_Extra_156 a c sep w
open Go.RowKit in
/-- strings.Join: "Join concatenates the elements of its first argument to create a single string. The separator string sep is placed between elements in the resulting string.": HOWEVER MANY ELEMENTS. Below the heap's end the world is as it was. (LAID: no walk: one application.) -/
theorem Try.strings_Join (bk o c : Nat) (xs : List ByteArray) (sep : ByteArray) (w : World) (hcells : ∀ (j : Nat) x, xs[j]? = some x → w.cell? ⟨bk, o + j, none⟩ = some (.string x)) (hbk : bk < w.heap.size) (hN : xs.length ≤ 140737488355328) (hcap : xs.length ≤ c) (hlen : (Lib.join (xs.map (·.data.toList)) sep.data.toList).length ≤ 140737488355328) :
    Calls Try.prog 62 #[.slice (some ⟨bk, o, none⟩) xs.length c, .string sep] w fun e w' => e = .returned (.string ⟨(Lib.join (xs.map (·.data.toList)) sep.data.toList).toArray⟩) ∧ Below w.heap.size w w' := Any.strings_Join Try.lays156 Try.Builder_Extra_156 bk o c xs sep w hcells hbk hN hcap hlen
def Try.lays144_ren : Go.Shelf.Ren := ⟨fun | 144 => 56 | 143 => 72 | 219 => 85 | 217 => 101 | 225 => 102 | 224 => 103 | 267 => 104 | 266 => 112 | 314 => 113 | n => n, fun | 9 => 9 | 4 => 4 | 3 => 3 | 5 => 5 | 46 => 86 | 146 => 113 | 51 => 109 | n => n, fun | 1 => 0 | n => n⟩
theorem Try.lays144 : Go.Proofs.Lays.n144 Try.prog Try.lays144_ren := {
  mixed := by kernel_rfl
  f143 := Try.func72.trans (congrArg some (by kernel_rfl))
  f144 := Try.func56.trans (congrArg some (by kernel_rfl))
  f217 := Try.func101.trans (congrArg some (by kernel_rfl))
  f219 := Try.func85.trans (congrArg some (by kernel_rfl))
  f224 := Try.func103.trans (congrArg some (by kernel_rfl))
  f225 := Try.func102.trans (congrArg some (by kernel_rfl))
  f266 := Try.func112.trans (congrArg some (by kernel_rfl))
  f267 := Try.func104.trans (congrArg some (by kernel_rfl))
  f314 := Try.func113.trans (congrArg some (by kernel_rfl))
  t3 := Try.underlying3
  a3 := Try.isAgg3
  z3 := Try.sizeOf3
  v3 := Try.zeroValue3
  t4 := Try.underlying4
  a4 := Try.isAgg4
  z4 := Try.sizeOf4
  v4 := Try.zeroValue4
  t5 := Try.underlying5
  a5 := Try.isAgg5
  z5 := Try.sizeOf5
  v5 := Try.zeroValue5
  t9 := Try.underlying9
  a9 := Try.isAgg9
  z9 := Try.sizeOf9
  v9 := Try.zeroValue9
  t46 := Try.underlying86
  a46 := Try.isAgg86
  z46 := Try.sizeOf86
  v46 := Try.zeroValue86
  t51 := Try.underlying109
  a51 := Try.isAgg109
  z51 := Try.sizeOf109
  v51 := Try.zeroValue109
  t146 := Try.underlying113
  a146 := Try.isAgg113
  z146 := Try.sizeOf113
  v146 := Try.zeroValue113
  g1 := by kernel_rfl }
open Go.RowKit Go.Lib in
/-- strings.Contains: "Contains reports whether substr is within s.": IT RETURNS 'Lib.contains s substr'; the world is as it was. (LAID: no walk: one application.) -/
theorem Try.strings_Contains (s sub : ByteArray) (m : Int) (w : World) (hs : s.size < 4294967281) (hm : w.cell? ⟨0, 0, none⟩ = some (.int .i64 m)) :
    Calls Try.prog 56 #[.string s, .string sub] w fun e w' => e = .returned (.bool (Lib.contains s.data.toList sub.data.toList)) ∧ w' = w := Any.strings_Contains Try.lays144 s sub m w hs hm
def Try.laysM144_ren : Go.Shelf.Ren := ⟨fun | 144 => 56 | 143 => 72 | 219 => 85 | 217 => 101 | 225 => 102 | 224 => 103 | 267 => 104 | 266 => 112 | 314 => 113 | n => n, fun | 9 => 9 | 4 => 4 | 3 => 3 | 5 => 5 | 46 => 86 | 146 => 113 | 51 => 109 | n => n, fun | 1 => 0 | n => n⟩
theorem Try.laysM144 : Go.Proofs.LaysM.n144 Try.prog Try.laysM144_ren := {
  mixed := by kernel_rfl
  f143 := Try.func72.trans (congrArg some (by kernel_rfl))
  f144 := Try.func56.trans (congrArg some (by kernel_rfl))
  f217 := Try.func101.trans (congrArg some (by kernel_rfl))
  f219 := Try.func85.trans (congrArg some (by kernel_rfl))
  f224 := Try.func103.trans (congrArg some (by kernel_rfl))
  f225 := Try.func102.trans (congrArg some (by kernel_rfl))
  f266 := Try.func112.trans (congrArg some (by kernel_rfl))
  f267 := Try.func104.trans (congrArg some (by kernel_rfl))
  f314 := Try.func113.trans (congrArg some (by kernel_rfl))
  t3 := Try.underlying3
  a3 := Try.isAgg3
  z3 := Try.sizeOf3
  v3 := Try.zeroValue3
  t4 := Try.underlying4
  a4 := Try.isAgg4
  z4 := Try.sizeOf4
  v4 := Try.zeroValue4
  t5 := Try.underlying5
  a5 := Try.isAgg5
  z5 := Try.sizeOf5
  v5 := Try.zeroValue5
  t9 := Try.underlying9
  a9 := Try.isAgg9
  z9 := Try.sizeOf9
  v9 := Try.zeroValue9
  t46 := Try.underlying86
  a46 := Try.isAgg86
  z46 := Try.sizeOf86
  v46 := Try.zeroValue86
  t51 := Try.underlying109
  a51 := Try.isAgg109
  z51 := Try.sizeOf109
  v51 := Try.zeroValue109
  t146 := Try.underlying113
  a146 := Try.isAgg113
  z146 := Try.sizeOf113
  v146 := Try.zeroValue113
  g1 := by kernel_rfl
  i3 := by kernel_rfl
  i4 := by kernel_rfl
  i5 := by kernel_rfl
  i9 := by kernel_rfl
  i46 := by kernel_rfl
  i51 := by kernel_rfl
  i146 := by kernel_rfl
  m1 := by kernel_rfl
  s1_3 := fun w h => Go.Proofs.cell_of_shapedOpen_int (zero := #[.int .i64 0]) (t := 3) h (of_decide_eq_true (by kernel_rfl)) (by kernel_rfl) rfl (by kernel_rfl) (by kernel_rfl) Try.underlying3 }
def Try.lays148_ren : Go.Shelf.Ren := ⟨fun | 148 => 70 | 222 => 83 | 223 => 84 | 269 => 100 | n => n, fun | 9 => 9 | 3 => 3 | 4 => 4 | 5 => 5 | 146 => 113 | 51 => 109 | 46 => 86 | n => n, fun | n => n⟩
theorem Try.lays148 : Go.Proofs.Lays.n148 Try.prog Try.lays148_ren := {
  mixed := by kernel_rfl
  f148 := Try.func70.trans (congrArg some (by kernel_rfl))
  f222 := Try.func83.trans (congrArg some (by kernel_rfl))
  f223 := Try.func84.trans (congrArg some (by kernel_rfl))
  f269 := Try.func100.trans (congrArg some (by kernel_rfl))
  t3 := Try.underlying3
  a3 := Try.isAgg3
  z3 := Try.sizeOf3
  v3 := Try.zeroValue3
  t4 := Try.underlying4
  a4 := Try.isAgg4
  z4 := Try.sizeOf4
  v4 := Try.zeroValue4
  t5 := Try.underlying5
  a5 := Try.isAgg5
  z5 := Try.sizeOf5
  v5 := Try.zeroValue5
  t9 := Try.underlying9
  a9 := Try.isAgg9
  z9 := Try.sizeOf9
  v9 := Try.zeroValue9
  t46 := Try.underlying86
  a46 := Try.isAgg86
  z46 := Try.sizeOf86
  v46 := Try.zeroValue86
  t51 := Try.underlying109
  a51 := Try.isAgg109
  z51 := Try.sizeOf109
  v51 := Try.zeroValue109
  t146 := Try.underlying113
  a146 := Try.isAgg113
  z146 := Try.sizeOf113
  v146 := Try.zeroValue113 }
open Go.RowKit Go.Lib in
/-- strings.LastIndex: "LastIndex returns the index of the last instance of substr in s, or -1 if substr is not present in s.": AT A substr OF WHATEVER LENGTH. (LAID: no walk: one application.) -/
theorem Try.strings_LastIndex (s sub : ByteArray) (hs : s.size < 4611686018427387904) (w : World) :
    Calls Try.prog 70 #[.string s, .string sub] w fun e w' => e = .returned (.int .i64 (Lib.lastIndex s.data.toList sub.data.toList)) ∧ w' = w := Any.strings_LastIndex Try.lays148 s sub hs w
def Try.lays99_ren : Go.Shelf.Ren := ⟨fun | 99 => 69 | 206 => 82 | n => n, fun | 9 => 9 | 4 => 4 | 3 => 3 | n => n, fun | n => n⟩
theorem Try.lays99 : Go.Proofs.Lays.n99 Try.prog Try.lays99_ren := {
  mixed := by kernel_rfl
  f99 := Try.func69.trans (congrArg some (by kernel_rfl))
  f206 := Try.func82.trans (congrArg some (by kernel_rfl))
  t3 := Try.underlying3
  a3 := Try.isAgg3
  z3 := Try.sizeOf3
  v3 := Try.zeroValue3
  t4 := Try.underlying4
  a4 := Try.isAgg4
  z4 := Try.sizeOf4
  v4 := Try.zeroValue4
  t9 := Try.underlying9
  a9 := Try.isAgg9
  z9 := Try.sizeOf9
  v9 := Try.zeroValue9 }
open Go.RowKit Go.Lib in
/-- strings.HasPrefix: "HasPrefix reports whether the string s begins with prefix.": IT RETURNS 'Lib.hasPrefix s prefix'; the world is as it was. (LAID: no walk: one application.) -/
theorem Try.strings_HasPrefix (s p : ByteArray) (w : World) :
    Calls Try.prog 69 #[.string s, .string p] w fun e w' => e = .returned (.bool (Lib.hasPrefix s.data.toList p.data.toList)) ∧ w' = w := Any.strings_HasPrefix Try.lays99 s p w
def Try.lays100_ren : Go.Shelf.Ren := ⟨fun | 100 => 79 | 207 => 98 | n => n, fun | 9 => 9 | 4 => 4 | 3 => 3 | n => n, fun | n => n⟩
theorem Try.lays100 : Go.Proofs.Lays.n100 Try.prog Try.lays100_ren := {
  mixed := by kernel_rfl
  f100 := Try.func79.trans (congrArg some (by kernel_rfl))
  f207 := Try.func98.trans (congrArg some (by kernel_rfl))
  t3 := Try.underlying3
  a3 := Try.isAgg3
  z3 := Try.sizeOf3
  v3 := Try.zeroValue3
  t4 := Try.underlying4
  a4 := Try.isAgg4
  z4 := Try.sizeOf4
  v4 := Try.zeroValue4
  t9 := Try.underlying9
  a9 := Try.isAgg9
  z9 := Try.sizeOf9
  v9 := Try.zeroValue9 }
open Go.RowKit Go.Lib in
/-- strings.HasSuffix: "HasSuffix reports whether the string s ends with suffix.": IT RETURNS 'Lib.hasSuffix s suffix'; the world is as it was. ('hs': no Go string is longer: a caller has it of every string that it was handed.) (LAID: no walk: one application.) -/
theorem Try.strings_HasSuffix (s p : ByteArray) (w : World) (hs : s.size ≤ 9223372036854775807) :
    Calls Try.prog 79 #[.string s, .string p] w fun e w' => e = .returned (.bool (Lib.hasSuffix s.data.toList p.data.toList)) ∧ w' = w := Any.strings_HasSuffix Try.lays100 s p w hs
def Try.lc47_ren : Go.Shelf.Ren := ⟨fun | 8 => 47 | 11 => 67 | n => n, fun | 26 => 3 | 28 => 70 | 24 => 23 | 0 => 0 | 33 => 49 | 4 => 4 | n => n, fun | n => n⟩
theorem Try.lc47 : Go.Proofs.SlLaysZI.n8 Try.prog Try.lc47_ren := {
  mixed := by kernel_rfl
  f8 := ⟨Try.f47.name, by decide, Try.func47.trans (congrArg some (by kernel_rfl))⟩
  f11 := ⟨Try.f67.name, by decide, Try.func67.trans (congrArg some (by kernel_rfl))⟩
  t0 := Try.underlying0
  a0 := Try.isAgg0
  z0 := Try.sizeOf0
  v0 := Try.zeroValue0
  t24 := Try.underlying23
  a24 := Try.isAgg23
  z24 := Try.sizeOf23
  v24 := Try.zeroValue23
  t26 := Try.underlying3
  a26 := Try.isAgg3
  z26 := Try.sizeOf3
  v26 := Try.zeroValue3
  t28 := Try.underlying70
  a28 := Try.isAgg70
  z28 := Try.sizeOf70
  v28 := Try.zeroValue70
  i26 := by kernel_rfl }
end Go.Proofs
/-
  Ranges over the periods of a border: the iterator, and slices.Collect over it (walked with the kit's words).
-/
namespace Go.Proofs
open Go.RowKit Go.Shelf
attribute [local go_sem] Oper.semAt_some
/-- is a number a period of a border -/
def isPer (s : ByteArray) (k : Nat) : Bool := Lib.hasPrefix s.data.toList (s.extract k s.size).data.toList
/-- the periods below a number -/
def perTo (s : ByteArray) (k : Nat) : List Int := ((List.range' 1 (k - 1)).filter (isPer s)).map fun (i : Nat) => (i : Int)
/-- all periods -/
def perL (s : ByteArray) : List Int := perTo s (s.size + 1)
theorem perTo_hit {s : ByteArray} {k : Nat} (h1 : 1 ≤ k) (h : isPer s k = true) : perTo s (k + 1) = perTo s k ++ [(k : Int)] := by
  obtain ⟨j, rfl⟩ : ∃ j, k = j + 1 := ⟨k - 1, by omega⟩
  simp only [perTo, Nat.add_sub_cancel, List.range'_concat, List.filter_append, List.map_append]
  simp [show 1 + j = j + 1 by omega, h]
theorem perTo_miss {s : ByteArray} {k : Nat} (h1 : 1 ≤ k) (h : isPer s k = false) : perTo s (k + 1) = perTo s k := by
  obtain ⟨j, rfl⟩ : ∃ j, k = j + 1 := ⟨k - 1, by omega⟩
  simp only [perTo, Nat.add_sub_cancel, List.range'_concat, List.filter_append, List.map_append]
  simp [show 1 + j = j + 1 by omega, h]
theorem perTo_len (s : ByteArray) (k : Nat) : (perTo s k).length ≤ k - 1 := by
  simp only [perTo, List.length_map]
  exact Nat.le_trans (List.length_filter_le _ _) (by simp)
theorem perTo_le {s : ByteArray} {k m : Nat} (h : k ≤ m) : perTo s k <+: perTo s m := by
  obtain ⟨d, rfl⟩ : ∃ d, m = k + d := ⟨m - k, by omega⟩
  clear h
  induction d with
  | zero => exact List.prefix_refl _
  | succ d ih =>
    refine ih.trans ?_
    by_cases c : 1 ≤ k + d
    · rw [show k + (d + 1) = (k + d) + 1 by omega]
      by_cases h : isPer s (k + d) = true
      · rw [perTo_hit c h]; exact List.prefix_append _ _
      · rw [perTo_miss c (by simpa using h)]; exact List.prefix_refl _
    · rw [show k = 0 by omega, show d = 0 by omega]; exact List.prefix_refl _
set_option maxRecDepth 100000 in
set_option maxHeartbeats 1000000 in
/-- the iterator, for every loop body that keeps what lay below n₀ -/
theorem Try.per1_in (n : Nat) (hn : 1 ≤ n) (l b n₀ : Nat) (hb : b < n₀) (s : ByteArray) (hs : s.size ≤ 1000) (J Jx : List Int → World → Prop)
    (hY : ∀ (pre : List Int) (x : Int) W, J pre W → pre.length < s.size → 1 ≤ x → x ≤ (s.size : Int) → YieldAt Fence.wide (n - 1) Try.prog l #[.int .i64 x] W fun e W' =>
      (e = .returned (.bool true) ∧ J (pre ++ [x]) W' ∧ Below n₀ W W') ∨ (e = .returned (.bool false) ∧ Jx (pre ++ [x]) W'))
    (W : World) (hJ : ∀ pre W, J pre W → J pre W.drew) (hc : W.cell? ⟨b, 0, none⟩ = some (.string s)) (h0 : J [] W) :
    CallsIn Fence.wide n Try.prog 68 #[.func (.yield l) #[] #[], .pointer (some ⟨b, 0, none⟩)] W fun e W' => (∃ v, e = .returned v) ∧
      ((∃ ys, ys = perL s ∧ J ys W') ∨ (∃ pre, pre <+: perL s ∧ Jx pre W')) := by
  refine callsIn_of_wp Try.func68 rfl trivial ?_ rfl
  simp only [Try.ntmps68, List.size_toArray, List.length_cons, List.length_nil, Nat.reduceAdd, Nat.reduceSub, Array.replicate_succ, Array.replicate_zero, List.push_toArray, List.append_toArray, List.nil_append, List.cons_append]
  gi_wp2
  gi_loopw [3] (fun p wr => ∃ k : Nat, 1 ≤ k ∧ k ≤ s.size + 1 ∧ p = .int .i64 k ∧ J (perTo s k) wr ∧ wr.cell? ⟨b, 0, none⟩ = some (.string s))
    (fun p wr => s.size + 1 - (Lib.intOf p).toNat)
  case atStart =>
    exact ⟨1, by omega, by omega, rfl, h0, hc⟩
  case round =>
    obtain ⟨k, hk1, hk2, rfl, hJs, hcr⟩ := hrel
    have hJd := hJ _ _ hJs
    have hfK : Fence.wide.fn 69 := trivial
    by_cases hk : k ≤ s.size
    · have hlen := perTo_len s k
      obtain ⟨fn, tmps, assign, body, hy, hR⟩ := hY (perTo s k) k wr.drew hJd (by omega) (by omega) (by omega)
      have hmx : Try.prog.follows .mixedOrders = true := by kernel_rfl
      have hR' := hR.mono (R' := fun e W' => ∃ bl : Bool, e = .returned (.bool bl) ∧ (bl = true → J (perTo s k ++ [(k : Int)]) W' ∧ Below n₀ wr.drew W') ∧ (bl = false → Jx (perTo s k ++ [(k : Int)]) W')) (by
        rintro e W' (⟨rfl, h1, h2⟩ | ⟨rfl, h1⟩)
        · exact ⟨true, rfl, fun _ => ⟨h1, h2⟩, fun h => (by cases h)⟩
        · exact ⟨false, rfl, fun h => (by cases h), fun _ => h1⟩)
      cases hp : isPer s k with
      | true =>
        have hpre : ∀ w, Calls Try.prog 69 #[.string s, .string (s.extract k s.size)] w fun e w' => e = .returned (.bool true) ∧ w' = w := fun w => by
          have := Try.strings_HasPrefix s (s.extract k s.size) w
          unfold isPer at hp
          rw [hp] at this
          exact this
        gi_wp2
        gi_region_with_o (first | (gi_at_call 69; refine (callsIn_wide.2 (hpre _)).mono ?_; rintro e w' ⟨rfl, rfl⟩) | (refine hR'.mono ?_; rintro e W3 ⟨bl, rfl, hb1, hb2⟩))
        all_goals cases bl with
        | true =>
          obtain ⟨hJ3, hk3⟩ := hb1 rfl
          have hc3 : W3.cell? ⟨b, 0, none⟩ = some (.string s) := (hk3.cell (p := ⟨b, 0, none⟩) hb).trans hcr
          gi_wp2
          go_roundw
          case rel => exact ⟨k + 1, by omega, by omega, by simp, by rw [perTo_hit hk1 hp]; exact hJ3, hc3⟩
          case measure => simp [Lib.intOf]; omega
        | false =>
          have hJx3 := hb2 rfl
          gi_wp2
          refine bodyPost_ret (results_none rfl _ _ _) rfl ?_
          exact ⟨⟨_, rfl⟩, .inr ⟨perTo s k ++ [(k : Int)], by rw [← perTo_hit hk1 hp]; exact perTo_le (by omega), hJx3⟩⟩
      | false =>
        have hpre : ∀ w, Calls Try.prog 69 #[.string s, .string (s.extract k s.size)] w fun e w' => e = .returned (.bool false) ∧ w' = w := fun w => by
          have := Try.strings_HasPrefix s (s.extract k s.size) w
          unfold isPer at hp
          rw [hp] at this
          exact this
        have hcrd : wr.drew.cell? ⟨b, 0, none⟩ = some (.string s) := hcr
        gi_wp2
        refine wpIn_region_any hmx ?_
        change wpAnyIn _ _ _ _ _ _ _ _ _ (World.drew _)
        refine wpAnyIn_take (i := 2) (v := .int .i64 k) rfl rfl (by kernel_rfl) (by kernel_rfl) (by kernel_rfl) (fun _ _ _ h => h) ⟨Or.inl ⟨by rfl, fun w => ?_⟩, fun _ => rfl⟩ ?_
        · go_simp
        refine wpAnyIn_ready (rs := [0, 1]) (by kernel_rfl) (by simp) ?_
        refine AllReadyIn.cons rfl (fun K hK => ?_) (AllReadyIn.cons rfl (fun K hK => ?_) AllReadyIn.nil)
        · go_simp
          refine hK _ _ ?_
          clear hK K
          refine wpAnyIn_ready (rs := [1]) (by kernel_rfl) (by simp) ?_
          refine AllReadyIn.cons rfl (fun K hK => ?_) AllReadyIn.nil
          go_simp
          refine hK _ _ ?_
          clear hK K
          refine wpAnyIn_take (i := 3) (v := .string (s.extract k s.size)) rfl rfl (by kernel_rfl) (by kernel_rfl) (by kernel_rfl) (fun _ _ _ h => h) ⟨Or.inl ⟨by rfl, fun w => ?_⟩, fun _ => rfl⟩ ?_
          · go_simp
            try rfl
          refine wpAnyIn_ready (rs := [4]) (by kernel_rfl) (by simp) ?_
          refine AllReadyIn.cons rfl (fun K hK => ?_) AllReadyIn.nil
          go_simp
          gi_wp2_with (gi_at_call 69; refine (callsIn_wide.2 (hpre _)).mono ?_; rintro e w' ⟨rfl, rfl⟩)
          refine wpAnyIn_take (i := 5) (v := .bool false) rfl rfl (by kernel_rfl) (by kernel_rfl) (by kernel_rfl) (fun _ _ _ h => h) ⟨Or.inl ⟨by rfl, fun w => ?_⟩, fun _ => rfl⟩ ?_
          · go_simp
          refine wpAnyIn_take (i := 6) (v := undef) rfl rfl (by kernel_rfl) (by kernel_rfl) (by kernel_rfl) (fun _ _ _ h => h) ⟨Or.inr ⟨by rfl, rfl⟩, fun _ => rfl⟩ ?_
          refine wpAnyIn_take (i := 7) (v := undef) rfl rfl (by kernel_rfl) (by kernel_rfl) (by kernel_rfl) (fun _ _ _ h => h) ⟨Or.inr ⟨by rfl, rfl⟩, fun _ => rfl⟩ ?_
          refine wpAnyIn_take (i := 8) (v := undef) rfl rfl (by kernel_rfl) (by kernel_rfl) (by kernel_rfl) (fun _ _ _ h => h) ⟨Or.inr ⟨by rfl, rfl⟩, fun _ => rfl⟩ ?_
          refine wpAnyIn_take (i := 9) (v := undef) rfl rfl (by kernel_rfl) (by kernel_rfl) (by kernel_rfl) (fun _ _ _ h => h) ⟨Or.inr ⟨by rfl, rfl⟩, fun _ => rfl⟩ ?_
          refine wpAnyIn_take (i := 10) (v := .bool false) rfl rfl (by kernel_rfl) (by kernel_rfl) (by kernel_rfl) (fun _ _ _ h => h) ⟨Or.inl ⟨by rfl, fun w => ?_⟩, fun _ => rfl⟩ ?_
          · go_simp
          refine wpAnyIn_done (by kernel_rfl) ?_ _
          gi_wp2
          go_roundw
          case rel => exact ⟨k + 1, by omega, by omega, by simp, by rw [perTo_miss hk1 hp]; exact hJd, hcrd⟩
          case measure => simp [Lib.intOf]; omega
        · go_simp
          refine hK _ _ ?_
          clear hK K
          refine wpAnyIn_take (i := 3) (v := .string (s.extract k s.size)) rfl rfl (by kernel_rfl) (by kernel_rfl) (by kernel_rfl) (fun _ _ _ h => h) ⟨Or.inl ⟨by rfl, fun w => ?_⟩, fun _ => rfl⟩ ?_
          · go_simp
            try rfl
          refine wpAnyIn_ready (rs := [0]) (by kernel_rfl) (by simp) ?_
          refine AllReadyIn.cons rfl (fun K hK => ?_) AllReadyIn.nil
          go_simp
          refine hK _ _ ?_
          clear hK K
          refine wpAnyIn_ready (rs := [4]) (by kernel_rfl) (by simp) ?_
          refine AllReadyIn.cons rfl (fun K hK => ?_) AllReadyIn.nil
          go_simp
          gi_wp2_with (gi_at_call 69; refine (callsIn_wide.2 (hpre _)).mono ?_; rintro e w' ⟨rfl, rfl⟩)
          refine wpAnyIn_take (i := 5) (v := .bool false) rfl rfl (by kernel_rfl) (by kernel_rfl) (by kernel_rfl) (fun _ _ _ h => h) ⟨Or.inl ⟨by rfl, fun w => ?_⟩, fun _ => rfl⟩ ?_
          · go_simp
          refine wpAnyIn_take (i := 6) (v := undef) rfl rfl (by kernel_rfl) (by kernel_rfl) (by kernel_rfl) (fun _ _ _ h => h) ⟨Or.inr ⟨by rfl, rfl⟩, fun _ => rfl⟩ ?_
          refine wpAnyIn_take (i := 7) (v := undef) rfl rfl (by kernel_rfl) (by kernel_rfl) (by kernel_rfl) (fun _ _ _ h => h) ⟨Or.inr ⟨by rfl, rfl⟩, fun _ => rfl⟩ ?_
          refine wpAnyIn_take (i := 8) (v := undef) rfl rfl (by kernel_rfl) (by kernel_rfl) (by kernel_rfl) (fun _ _ _ h => h) ⟨Or.inr ⟨by rfl, rfl⟩, fun _ => rfl⟩ ?_
          refine wpAnyIn_take (i := 9) (v := undef) rfl rfl (by kernel_rfl) (by kernel_rfl) (by kernel_rfl) (fun _ _ _ h => h) ⟨Or.inr ⟨by rfl, rfl⟩, fun _ => rfl⟩ ?_
          refine wpAnyIn_take (i := 10) (v := .bool false) rfl rfl (by kernel_rfl) (by kernel_rfl) (by kernel_rfl) (fun _ _ _ h => h) ⟨Or.inl ⟨by rfl, fun w => ?_⟩, fun _ => rfl⟩ ?_
          · go_simp
          refine wpAnyIn_done (by kernel_rfl) ?_ _
          gi_wp2
          go_roundw
          case rel => exact ⟨k + 1, by omega, by omega, by simp, by rw [perTo_miss hk1 hp]; exact hJd, hcrd⟩
          case measure => simp [Lib.intOf]; omega
    · gi_wp2
      go_end0
      obtain rfl : k = s.size + 1 := by omega
      exact ⟨⟨_, rfl⟩, .inl ⟨_, rfl, hJs⟩⟩
end Go.Proofs
/-
  slices.AppendSeq(nil, seq) and slices.Collect(seq) over the periods of a border.
-/
namespace Go.Proofs
open Go.RowKit Go.Shelf
attribute [local go_sem] Oper.semAt_some
theorem grownBy_drew (w : World) : w.grownBy w.drew none := ⟨rfl, rfl, rfl, Nat.le_refl _, fun _ _ _ => rfl⟩
theorem Try.per_stops (n : Nat) (hn : 1 ≤ n) (b n₀ : Nat) (hb : b < n₀) (s : ByteArray) (hs : s.size ≤ 1000) (w : World) (hn₀ : n₀ ≤ w.heap.size) (hc : w.cell? ⟨b, 0, none⟩ = some (.string s)) :
    SeqStopsK Fence.wide n Try.prog 68 #[.pointer (some ⟨b, 0, none⟩)] (fun x : Int => #[Value.int .i64 x]) (Below n₀) (fun ys => ys = perL s) (fun pre => pre <+: perL s) s.size w := fun l J Jx W hW hJ _ hY h0 =>
  Try.per1_in n hn l b n₀ hb s hs J Jx (fun pre x W h1 h2 _ _ => hY pre x W h1 h2) W (fun pre W1 h => hJ _ _ _ none h (grownBy_drew W1) (by intro r e; cases e)) ((hW.cell (p := ⟨b, 0, none⟩) (by show b < _; omega)).trans hc) h0
theorem Try.info3 : (Try.prog.info? 3).map (fun i => (i.zero, i.size, i.bytes)) = some (some (.int .i64 0), 1, 8) := by kernel_rfl
theorem Try.und23 : Try.prog.underlying 23 = some (.slice 3) := by kernel_rfl
set_option maxRecDepth 100000 in
set_option maxHeartbeats 2000000 in
theorem Try.appendSeq (n : Nat) (hn : 3 ≤ n) (b : Nat) (s : ByteArray) (hs : s.size ≤ 1000) (w : World) (hb : b < w.heap.size) (hc0 : w.cell? ⟨b, 0, none⟩ = some (.string s)) :
    CallsIn Fence.wide n Try.prog 67 #[.slice none 0 0, .func (.func 68) #[] #[.pointer (some ⟨b, 0, none⟩)]] w fun e W' => ∃ v, e = .returned v ∧ W'.ownsRow w.heap.size 3 1 v (perL s).length ((perL s).map (Value.int .i64)) ∧ (v = .slice none 0 0 ↔ perL s = []) ∧ Below w.heap.size w W' := by
  have hro : Fence.wide.round = none := rfl
  have h1 : 1 ≤ n := by omega
  obtain ⟨i0, hi, hz0, hz1, hz2⟩ := info_parts Try.info3
  refine callsIn_of_wp_marks Try.func67 rfl trivial ?_ hro
  simp only [Try.ntmps67, List.size_toArray, List.length_cons, List.length_nil, Nat.reduceAdd, Nat.reduceSub, Array.replicate_succ, Array.replicate_zero, List.push_toArray, List.append_toArray, List.nil_append, List.cons_append]
  gi_wp2
  have bO := Boxed.new w 23 (.slice none 0 0)
  have hB0 : Below w.heap.size w (w.alloc (.cells #[.slice none 0 0] 23)) := (Below.refl _ w).alloc (Nat.le_refl _) _
  refine wpIn_rangeFunc_ownG hro h1 (gf := 68) (lb := #[.pointer (some ⟨b, 0, none⟩)]) rfl trivial (enters_of Try.func68 (by kernel_rfl) rfl)
    (Try.per_stops (n - 1) (by omega) b w.heap.size hb s hs _ (by simp) ((hB0.cell (p := ⟨b, 0, none⟩) hb).trans hc0)) belowK_t (belowK_b (by simp)) (Below.refl _ _) (fun _ => rfl)
    (fun pre W => (∃ v, Boxed W w.heap.size 23 v ∧ W.ownsRow w.heap.size 3 1 v pre.length (pre.map (Value.int .i64)) ∧ (v = .slice none 0 0 ↔ pre = [])) ∧ Below w.heap.size w W)
    (fun _ _ _ => False)
    (OwnFrom.and (Own.from (holdsRow_own w.heap.size w.heap.size 23 3 1 (fun pre => pre.length) (fun pre => pre.map (Value.int .i64)) (fun pre v => v = .slice none 0 0 ↔ pre = [])) _) (ownFrom_below (Nat.le_refl _) (by simp)))
    (fun _ _ _ _ _ hs _ _ => hs)
    ⟨⟨_, bO, World.ownsRow_nil _ _ _ _, by simp⟩, hB0⟩
    (fun x => { tmps := #[.slice none 0 0, .func (.func 68) #[] #[.pointer (some ⟨b, 0, none⟩)], .pointer (some ⟨w.heap.size, 0, none⟩), undef, .slice none 0 0, .int .i64 x, .func (.func 68) #[] #[.pointer (some ⟨b, 0, none⟩)], .int .i64 x, undef, undef, undef, undef, undef], defers := [] }) ?assign ?body ?done ?stop
  case assign =>
    intro l x W K hK
    gi_wp2
    exact hK
  case body =>
    rintro l pre x W ⟨⟨v, hv, hrow, hnil⟩, hB⟩ hlt
    have hc := hv.cell
    gi_wp2_with (gi_at_builtin; refine wpListIn_append_own _ rfl _ _ 23 rfl w.heap.size 3 i0 (.int .i64 0) 1 8 Try.und23 hi hz0 hz1 hz2 rfl (by decide) _ _ _ rfl (hrow.alloc _) ⟨W.heap.size, 0, none⟩ 1 1 [.int .i64 x] rfl rfl (cell_one_new _ _ _) (by simp [Value.oneCell']) (by simp [maxLen]; omega) (by omega) (by have := hB.size; simp; omega) ?_; intro v' w1 hown' hgrow _; obtain ⟨g', cap', rfl⟩ := ownsRow_succ hown'; obtain ⟨hv1, hv2, hr2, hk2, hb2⟩ := hv.appended (by decide) hrow hB.size (Nat.le_refl _) hown' hgrow; have hc1 := hv1.cell; have hf1 := hv1.frozen)
    exact ⟨hk2.from _, hb2, ⟨_, hv2, by simpa using hr2, by simp⟩, hB.trans hb2⟩
  case done =>
    rintro D ys W hD rfl ⟨⟨v, hv, hrow, hnil⟩, hB⟩ hK
    have hc := hv.cell
    gi_wp2
    refine ⟨by simp, .inl ⟨_, _, rfl, run_takeDeferred hK, ?_⟩⟩
    exact ⟨_, results_tmp rfl _ _ _, v, rfl, ownsRow_putObj hrow _ hK rfl, hnil, hB.trans (belowK_b (w := w) (Nat.le_refl _) W D _ _ (by simp at hD; omega) hK rfl rfl)⟩
  case stop =>
    rintro D c pre W _ _ h _
    exact h.elim
set_option maxHeartbeats 1000000 in
theorem Try.collect (b : Nat) (s : ByteArray) (hs : s.size ≤ 1000) (w : World) (hb : b < w.heap.size) (hc0 : w.cell? ⟨b, 0, none⟩ = some (.string s)) :
    Calls Try.prog 47 #[.func (.func 68) #[] #[.pointer (some ⟨b, 0, none⟩)]] w fun e W' => ∃ v, e = .returned v ∧ W'.ownsRow w.heap.size 3 1 v (perL s).length ((perL s).map (Value.int .i64)) ∧ (v = .slice none 0 0 ↔ perL s = []) ∧ Below w.heap.size w W' := by
  refine (callsIn_wide (n := 4)).1 (callsIn_of_wp Try.func47 rfl trivial ?_ rfl)
  simp only [Try.ntmps47, List.size_toArray, List.length_cons, List.length_nil, Nat.reduceAdd, Nat.reduceSub, Array.replicate_succ, Array.replicate_zero, List.push_toArray, List.append_toArray, List.nil_append, List.cons_append]
  have hfK : Fence.wide.fn 67 := trivial
  gi_wp2_with (gi_at_call 67; refine (Try.appendSeq _ (by omega) b s hs _ hb hc0).mono ?_; rintro e w' ⟨v, rfl, hrow, hnil, hB⟩)
  go_ret
  exact ⟨v, rfl, hrow, hnil, hB⟩
end Go.Proofs
namespace Go.Vc
open Go.Proofs
set_option linter.unusedVariables false
set_option linter.unnecessarySimpa false
set_option linter.unusedSimpArgs false
section
variable {c : Ctx} {p nid : Nat} {a b : Code} {st : St} {K : Ex → St → Prop}
/- f47: slices.Collect[int] (by a contract of its own) -/
def f47 (N : Nat) (a0 : ByteArray) : Option ((List Int)) :=
 if a0.size ≤ 1000 then some (perL a0) else none
def G47 (x : ByteArray) (d : D) : Prop := ∃ (N : Nat) (r : (List Int)), f47 N x = some r ∧ d = sl_iN r
theorem G47.step {N : Nat} {a0 : ByteArray} {ρ : Type} {A : (List Int) → Option ρ} {q : ρ} {x : ByteArray} {K : D → Prop} (hd : x = a0) (h : ∀ r, A r = some q → K (sl_iN r)) (hF : (f47 N a0).bind A = some q) : ∃ d, G47 x d ∧ K d := by
  obtain ⟨r, hr, hA⟩ := bind_some hF
  exact ⟨_, ⟨N, r, hd ▸ hr, rfl⟩, h r hA⟩
theorem perL_in {s : ByteArray} {x : Int} (h : x ∈ perL s) : 1 ≤ x ∧ x ≤ s.size := by
  simp only [perL, perTo, List.mem_map, List.mem_filter, List.mem_range', Nat.add_sub_cancel] at h
  obtain ⟨i, ⟨⟨j, hj, rfl⟩, _⟩, rfl⟩ := h
  omega
theorem P47 : CallOK Try.prog 47 (boxPg 68 G47) := CallOK.box fun b s d w hG _ _ hb hc => by
  obtain ⟨N, r, hF, rfl⟩ := hG
  simp only [f47] at hF
  split at hF
  · rename_i hs
    cases hF
    refine (Go.Proofs.Try.collect b s hs w hb hc).mono ?_
    rintro e w' ⟨v, rfl, hrow, hnil, hB⟩
    refine ⟨v, rfl, Ext.of_below hB, ?_⟩
    have := own_rd hrow (by
      intro x hx
      obtain ⟨y, hy, rfl⟩ := List.mem_map.1 hx
      have := perL_in hy
      exact ⟨by simp only [pl, IntKind.min, IntKind.max, IntKind.signed, IntKind.bits]; simp; omega, rfl⟩)
    rw [List.map_map] at this
    exact this
  · cases hF
end
end Go.Vc
namespace Go.Vc
open Go.Proofs
set_option linter.unusedVariables false
set_option linter.unnecessarySimpa false
set_option linter.unusedSimpArgs false
section
variable {c : Ctx} {p nid : Nat} {a b : Code} {st : St} {K : Ex → St → Prop}
/- f16: tusche/repeat.Periods -/
def f16 (N : Nat) (a0 : ByteArray) : Option ((List Int) × Int) :=
 (f23 N a0).bind fun x1 =>
 bif decide (¬ x1 = (0 : Int)) then (some ([], x1))
 else ((f47 N a0).bind fun x2 =>
 some (x2, (0 : Int)))
def G16 (ds : List D) (d : D) : Prop := ∃ (N : Nat) (a0 : ByteArray) (r : (List Int) × Int), ds = [strN a0] ∧ f16 N a0 = some r ∧ d = .tup [sl_iN r.1, iN r.2]
theorem G16.step {N : Nat} {a0 : ByteArray} {ρ : Type} {A : ((List Int) × Int) → Option ρ} {q : ρ} {ds : List D} {K : D → Prop} (hd : ds = [strN a0]) (h : ∀ r, A r = some q → K (.tup [sl_iN r.1, iN r.2])) (hF : (f16 N a0).bind A = some q) : ∃ d, G16 ds d ∧ K d := by
  obtain ⟨r, hr, hA⟩ := bind_some hF
  exact ⟨_, ⟨N, a0, r, hd, hr, rfl⟩, h r hA⟩
set_option maxRecDepth 20000 in
set_option maxHeartbeats 4000000 in
theorem P16 : PureOK Try.prog 16 G16 := by
  refine pure_of_vc (c := mkCtx tyTree [(48, false, inlPg (mkCtx tyTree []) Try.f48), (47, true, boxPg 68 G47), (23, true, lendPg [[0]] G23)]) rfl tyOK (ctx_eff (callable Try.func48 rfl rfl) (CallOK.inl rfl tyOK (ctx_nil) Try.func48 (by kernel_rfl)) (ctx_box (callable Try.func47 rfl rfl) P47 (ctx_lend (callable Try.func23 rfl rfl) P23 (ctx_nil)))) [[1], [0]] 1 Try.func16 rfl rfl (by decide) (by kernel_rfl) ?_
  rintro ds d ⟨N, a0, r, rfl, hF, rfl⟩ hok
  clear hok
  refine ⟨rfl, ?_⟩
  show vc _ _ _ _ ⟨[(0, .dat (strN a0))], []⟩ _
  unfold f16 at hF
  repeat' (first
    | ((with_reducible first | refine q0 _ _ ?_ | refine q1 _ _ _ _ ?_ | refine q2 _ _ _ ?_); clear Q q0 q1 q2)
    | ((with_reducible first | refine seq_op ?hx (fun Q q0 q1 q2 => ?_)); (case hx => exact rfl); conv => whnf)
    | ((with_reducible refine cond_id ?_); (first | ((refine condKT rfl ?hy ?_); (case hy => first | assumption | exact notT (by assumption) | exact rfl)) | ((refine condKF rfl ?hy ?_); (case hy => first | assumption | exact notF (by assumption) | exact rfl)) | (revert hF; (with_reducible refine condF ?hx ?_ ?_); (case hx => exact rfl); all_goals (intro hc hF))))
    | ((with_reducible refine seq_nil ?_); (first | ((with_reducible refine hR _ ?_); clear R hR) | ((with_reducible refine hL _ ?_); clear L hL)))
    | ((with_reducible first | refine int_step ?_); conv => whnf)
    | (with_reducible first | refine vc_block ?_ | refine vc_skip ?_ | refine vc_ret ?_ | refine vc_exit ?_ | refine vc_region (fun R hR => ?_) | refine k_seq_ret ?_ | refine k_seq_exit ?_ | refine k_blk ?_ | refine k_blk_ret ?_ | refine k_blk_here ?_)
    | ((with_reducible refine vc_seqN [] ?hx ?_); (case hx => exact rfl))
    | (revert hF; (with_reducible refine G23.lend ?hx ?_); (case hx => exact rfl); intro v hF; conv => whnf)
    | (revert hF; (with_reducible refine G47.step ?hx ?_); (case hx => exact rfl); intro v hF; conv => whnf)
    | ((with_reducible first | refine k_blk_out ?hx ?_ | refine vc_condT ?hx ?_); (case hx => exact rfl))
    | ((refine row_all ?hn ?_); (case hn => first | exact rfl | (simp; done) | (simp; omega)); conv => whnf)
    | ((with_reducible refine le_step ?hn ?_); (case hn => first | exact rfl | assumption | omega); conv => whnf)
    | ((refine ⟨?hx, ?_⟩); (case hx => exact ⟨rfl, Nat.le_of_ble_eq_true rfl, rfl⟩); conv => whnf)
    | ((with_reducible refine ex_step ?_); conv => whnf)
    | ((with_reducible refine both_T ?hx ?_); (case hx => first | exact rfl | assumption | exact notT (by assumption)); conv => whnf)
    | ((with_reducible refine both_F ?hx ?_); (case hx => first | exact rfl | assumption | exact notF (by assumption)); conv => whnf)
    | (revert hF; (with_reducible refine ite_step ?_ ?_) <;> (intro hc hF; conv => whnf))
    | ((with_reducible refine vc_condF ?hx ?_); (case hx => exact rfl))
    | (show retD _ _ _ _ _ _; conv => whnf)
    | ((refine inl_step ?ha ?hb ?hc rfl ?_); (case ha => exact rfl); (case hb => omega); (case hc => exact Nat.le_of_ble_eq_true rfl))
    | (show Kinl _ _ _ _ _ _ _; conv => whnf)
    | ((with_reducible refine kinl_step ?ha ?hb ?_); (case ha => exact rfl); (case hb => exact rfl); conv => whnf)
    | ((refine ⟨?hx, trivial⟩); (case hx => (cases hF; exact rfl)))
    | ((refine ⟨?hx, ?_⟩); (case hx => decide); conv => whnf)
    | with_reducible refine k_seq ?_
    | (have hF : (none : Option _) = some _ := hF; cases hF))
end
end Go.Vc
/-
  Root: the first period that divides a border's length (walked with the kit's words).
-/
namespace Go.Proofs
set_option linter.unusedVariables false
set_option linter.unnecessarySimpa false
set_option linter.unusedSimpArgs false
set_option linter.unusedSimpArgs false
open Go.RowKit Go.Shelf
attribute [local go_sem] Oper.semAt_some
/-- a period of a border of at most 1000 figures -/
abbrev PerI (s : ByteArray) := { x : Int // 1 ≤ x ∧ x ≤ s.size }
theorem Try.per_stopsI (n : Nat) (hn : 1 ≤ n) (b n₀ : Nat) (hb : b < n₀) (s : ByteArray) (hs : s.size ≤ 1000) (w : World) (hn₀ : n₀ ≤ w.heap.size) (hc : w.cell? ⟨b, 0, none⟩ = some (.string s)) :
    SeqStopsK Fence.wide n Try.prog 68 #[.pointer (some ⟨b, 0, none⟩)] (fun x : PerI s => #[Value.int .i64 x.1]) (Below n₀) (fun ys => ys.map (·.1) = perL s) (fun pre => pre.map (·.1) <+: perL s) s.size w := fun l J Jx W hW hJ _ hY h0 =>
  (Try.per1_in n hn l b n₀ hb s hs (fun pre W => ∃ p : List (PerI s), p.map (·.1) = pre ∧ J p W) (fun pre W => ∃ p : List (PerI s), p.map (·.1) = pre ∧ Jx p W)
    (fun pre x W ⟨p, hp, hJp⟩ hl h1 h2 => by
      subst hp
      obtain ⟨fn, tmps, assign, body, hy, hR⟩ := hY p ⟨x, h1, h2⟩ W hJp (by simpa using hl)
      refine ⟨fn, tmps, assign, body, hy, hR.mono ?_⟩
      rintro e W' (⟨rfl, h3, h4⟩ | ⟨rfl, h3⟩)
      · exact .inl ⟨rfl, ⟨_, by simp, h3⟩, h4⟩
      · exact .inr ⟨rfl, _, by simp, h3⟩)
    W (fun pre W1 ⟨p, hp, h⟩ => ⟨p, hp, hJ _ _ _ none h (grownBy_drew W1) (by intro r e; cases e)⟩) ((hW.cell (p := ⟨b, 0, none⟩) (by show b < _; omega)).trans hc) ⟨[], rfl, h0⟩).mono (by
      rintro e W' ⟨hv, ⟨ys, rfl, p, hp, h⟩ | ⟨pre, hpre, p, rfl, h⟩⟩
      · exact ⟨hv, .inl ⟨p, hp, h⟩⟩
      · exact ⟨hv, .inr ⟨p, hpre, h⟩⟩)
theorem Try.periods_in (n : Nat) (hn : 1 ≤ n) (s : ByteArray) (w : World) :
    CallsIn Fence.wide n Try.prog 48 #[.string s] w fun e w' => e = .returned (.func (.func 68) #[] #[.pointer (some ⟨w.heap.size, 0, none⟩)]) ∧ w' = w.alloc (.cells #[.string s] 9) := by
  refine callsIn_of_wp Try.func48 rfl trivial ?_ rfl
  simp only [Try.ntmps48, List.size_toArray, List.length_cons, List.length_nil, Nat.reduceAdd, Nat.reduceSub, Array.replicate_succ, Array.replicate_zero, List.push_toArray, List.append_toArray, List.nil_append, List.cons_append]
  gi_wp2
  go_ret
  exact ⟨rfl, rfl⟩
/-- a drawn region in a round, walked as out of it -/
theorem wpAnyIn_inRound {F : Fence} {n : Nat} {P : Program} {md : Region.Mode} {ops : Array Oper} {Q : Exit → Act → World → Prop} (hro : F.round = none) (l : Nat) (hd : (ops.toList.all fun o => match o.op with | .defer _ => false | _ => true) = true) :
    ∀ (fuel : Nat) (listed : Array Bool) (a : Act) (w : World), wpAnyIn F n P md ops Q fuel listed a w → wpAnyIn (F.inRound l) n P md ops Q fuel listed a w
  | 0, _, _, _, h => h
  | fuel + 1, listed, a, w, ⟨h1, h2⟩ => ⟨h1, fun i hi => by
    have h := h2 i hi
    have ih := fun a w => wpAnyIn_inRound (F := F) (n := n) (P := P) (md := md) (Q := Q) hro l hd fuel (listed.setIfInBounds i true) a w
    unfold wpOpIn at h ⊢
    cases ho : ops[i]? with
    | none => simp only [ho] at h ⊢; exact ih _ _ h
    | some o =>
      simp only [ho] at h ⊢
      have hno : ∀ c, o.op ≠ .defer c := by
        intro c hc
        have := List.all_eq_true.1 hd o (by
          obtain ⟨hlt, rfl⟩ := Array.getElem?_eq_some_iff.1 ho
          exact Array.mem_toList_iff.2 (Array.getElem_mem hlt))
        rw [hc] at this; cases this
      split at h
      · rename_i hw
        rw [if_pos hw]
        refine Oper.wpIn_mono (fun a w => ih a w) ?_
        unfold Oper.wpIn at h ⊢
        rw [hro, Oper.semAt_none] at h
        rw [Fence.inRound_round, Oper.semAt_some l _ _ hno]
        exact h
      · rename_i hw
        rw [if_neg hw]
        exact ⟨h.1, ih _ _ h.2⟩⟩
/-- the root and its exponent, out of the periods -/
def rootR (s : ByteArray) : List Int → ByteArray × Int
  | [] => (s, 1)
  | p :: l => if (s.size : Int) % p = 0 then (s.extract 0 p.toNat, (s.size : Int) / p) else rootR s l
theorem rootR_app {s : ByteArray} {pre : List Int} {x : Int} {l : List Int} (h : ∀ y, y ∈ pre → ¬ (s.size : Int) % y = 0) (hx : (s.size : Int) % x = 0) : rootR s (pre ++ x :: l) = (s.extract 0 x.toNat, (s.size : Int) / x) := by
  induction pre with
  | nil => simp [rootR, hx]
  | cons y pre ih => simp [rootR, h y (by simp), ih fun z hz => h z (by simp [hz])]
theorem rootR_none {s : ByteArray} {l : List Int} (h : ∀ y, y ∈ l → ¬ (s.size : Int) % y = 0) : rootR s l = (s, 1) := by
  induction l with
  | nil => rfl
  | cons y pre ih => simp [rootR, h y (by simp), ih fun z hz => h z (by simp [hz])]
/-- what a round that returns has left -/
def rootIx (s : ByteArray) (w : World) (c : Code) (pre : List (PerI s)) (W : World) : Prop :=
  ((((c = .ret ∧ ∃ (p : List Int) (x : Int), pre.map (·.1) = p ++ [x] ∧ (∀ y ∈ p, ¬ (s.size : Int) % y = 0) ∧ (s.size : Int) % x = 0) ∧ Boxed W (w.heap.size + 1) 9 (.string (rootR s (pre.map (·.1))).1)) ∧ Boxed W (w.heap.size + 1 + 1) 3 (.int .i64 (rootR s (pre.map (·.1))).2)) ∧ Boxed W (w.heap.size + 1 + 1 + 1) 24 (.int .i64 0)) ∧ Below w.heap.size w W
set_option maxRecDepth 100000 in
set_option maxHeartbeats 2000000 in
theorem Try.root_in (s : ByteArray) (hs : s.size ≤ 1000) (c : Int) (w : World) (hC : ∀ w1, Below w.heap.size w w1 → Calls Try.prog 23 #[.string s] w1 fun e w' => e = .returned (.int .i64 c) ∧ Below w1.heap.size w1 w') :
    Calls Try.prog 18 #[.string s] w fun e W' => (e = .returned (if c = 0 then .tuple #[.string (rootR s (perL s)).1, .int .i64 (rootR s (perL s)).2, .int .i64 0] else .tuple #[.string ⟨#[]⟩, .int .i64 0, .int .i64 c])) ∧ Below w.heap.size w W' := by
  refine (callsIn_wide (n := 6)).1 (callsIn_of_wp_marks Try.func18 rfl trivial ?_ rfl)
  have hro : Fence.wide.round = none := rfl
  simp only [Try.ntmps18, List.size_toArray, List.length_cons, List.length_nil, Nat.reduceAdd, Nat.reduceSub, Array.replicate_succ, Array.replicate_zero, List.push_toArray, List.append_toArray, List.nil_append, List.cons_append]
  have hf23 : Fence.wide.fn 23 := trivial
  have hf48 : Fence.wide.fn 48 := trivial
  have b1 := (((Boxed.new w 9 (.string s)).alloc (.cells #[.string ⟨#[]⟩] 9)).alloc (.cells #[.int .i64 0] 3)).alloc (.cells #[.int .i64 0] 24)
  have b2 := ((Boxed.new (w.alloc (.cells #[.string s] 9)) 9 (.string ⟨#[]⟩)).alloc (.cells #[.int .i64 0] 3)).alloc (.cells #[.int .i64 0] 24)
  have b3 := (Boxed.new ((w.alloc (.cells #[.string s] 9)).alloc (.cells #[.string ⟨#[]⟩] 9)) 3 (.int .i64 0)).alloc (.cells #[.int .i64 0] 24)
  have b4 := Boxed.new (((w.alloc (.cells #[.string s] 9)).alloc (.cells #[.string ⟨#[]⟩] 9)).alloc (.cells #[.int .i64 0] 3)) 24 (.int .i64 0)
  simp only [World.size_alloc] at b2 b3 b4
  have hB0 : Below w.heap.size w ((((w.alloc (.cells #[.string s] 9)).alloc (.cells #[.string ⟨#[]⟩] 9)).alloc (.cells #[.int .i64 0] 3)).alloc (.cells #[.int .i64 0] 24)) := ((((Below.refl _ w).alloc (Nat.le_refl _) _).alloc (by simp) _).alloc (by simp; omega) _).alloc (by simp; omega) _
  have hsz : ((((w.alloc (.cells #[.string s] 9)).alloc (.cells #[.string ⟨#[]⟩] 9)).alloc (.cells #[.int .i64 0] 3)).alloc (.cells #[.int .i64 0] 24)).heap.size = w.heap.size + 4 := by simp
  have key : ∀ {W0 : World}, Below ((((w.alloc (.cells #[.string s] 9)).alloc (.cells #[.string ⟨#[]⟩] 9)).alloc (.cells #[.int .i64 0] 3)).alloc (.cells #[.int .i64 0] 24)).heap.size ((((w.alloc (.cells #[.string s] 9)).alloc (.cells #[.string ⟨#[]⟩] 9)).alloc (.cells #[.int .i64 0] 3)).alloc (.cells #[.int .i64 0] 24)) W0 →
      Boxed W0 w.heap.size 9 (.string s) ∧ Boxed W0 (w.heap.size + 1) 9 (.string ⟨#[]⟩) ∧ Boxed W0 (w.heap.size + 1 + 1) 3 (.int .i64 0) ∧ Boxed W0 (w.heap.size + 1 + 1 + 1) 24 (.int .i64 0) ∧ Below w.heap.size w W0 ∧ w.heap.size + 4 ≤ W0.heap.size := by
    intro W0 h
    exact ⟨(h.block _ (by rw [hsz]; omega)).trans b1, (h.block _ (by rw [hsz]; omega)).trans b2, (h.block _ (by rw [hsz]; omega)).trans b3, (h.block _ (by rw [hsz]; omega)).trans b4, hB0.trans (h.mono (by rw [hsz]; omega)), by have := h.size; rw [hsz] at this; exact this⟩
  by_cases hc0 : c = 0
  · subst hc0
    gi_wp2_with (first | (gi_at_call 23; refine (callsIn_wide.2 (hC _ hB0)).mono ?_; rintro e W0 ⟨rfl, hBW⟩; obtain ⟨d1, d2, d3, d4, hB, hsW⟩ := key hBW; have dc1 := d1.cell) | (gi_at_call 48; refine (Try.periods_in _ (by omega) _ _).mono ?_; rintro e w' ⟨rfl, rfl⟩))
    have hB1 : Below W0.heap.size W0 (W0.alloc (.cells #[.string s] 9)) := (Below.refl _ _).alloc (Nat.le_refl _) _
    have bN := Boxed.new W0 9 (.string s)
    have hsz1 : (W0.alloc (.cells #[.string s] 9)).heap.size = W0.heap.size + 1 := by simp
    have f1 := d1.alloc (.cells #[.string s] 9)
    have f2 := d2.alloc (.cells #[.string s] 9)
    have f3 := d3.alloc (.cells #[.string s] 9)
    have f4 := d4.alloc (.cells #[.string s] 9)
    have hBw : Below w.heap.size w (W0.alloc (.cells #[.string s] 9)) := hB.trans (hB1.mono (by omega))
    obtain ⟨W1, hW1⟩ : ∃ W1, W0.alloc (.cells #[.string s] 9) = W1 := ⟨_, rfl⟩
    rw [hW1] at hB1 bN hsz1 f1 f2 f3 f4 hBw ⊢
    clear hW1
    refine wpIn_rangeFunc_ownG hro (by omega) (gf := 68) (lb := #[.pointer (some ⟨W0.heap.size, 0, none⟩)]) rfl trivial (enters_of Try.func68 (by kernel_rfl) rfl)
      (Try.per_stopsI (6 - 1) (by omega) W0.heap.size W1.heap.size (by omega) s hs W1 (Nat.le_refl _) bN.cell) belowK_t (belowK_b (Nat.le_refl _)) (Below.refl _ _) (fun _ => rfl)
      (fun pre W => (∀ x ∈ pre.map (·.1), ¬ (s.size : Int) % x = 0) ∧ Below W1.heap.size W1 W)
      (rootIx s w)
      (OwnFrom.and (ownFrom_pure _ (fun pre : List (PerI s) => ∀ x ∈ pre.map (·.1), ¬ (s.size : Int) % x = 0)) (ownFrom_below (Nat.le_refl _) (Nat.le_refl _)))
      (fun c => OwnFrom.and (OwnFrom.and (OwnFrom.and (OwnFrom.and (ownFrom_pure _ (fun pre : List (PerI s) => c = .ret ∧ ∃ (p : List Int) (x : Int), pre.map (·.1) = p ++ [x] ∧ (∀ y ∈ p, ¬ (s.size : Int) % y = 0) ∧ (s.size : Int) % x = 0)) (Own.from (boxed_own _ _ (fun pre : List (PerI s) => Value.string (rootR s (pre.map (·.1))).1)) _)) (Own.from (boxed_own _ _ (fun pre : List (PerI s) => Value.int .i64 (rootR s (pre.map (·.1))).2)) _)) (Own.from (boxed_own _ _ (fun _ : List (PerI s) => Value.int .i64 0)) _)) (ownFrom_below (Nat.le_refl _) (by omega)))
      ⟨by simp, Below.refl _ _⟩
      (fun x => { tmps := #[.string s, .pointer (some ⟨w.heap.size, 0, none⟩), .pointer (some ⟨w.heap.size + 1, 0, none⟩), .pointer (some ⟨w.heap.size + 1 + 1, 0, none⟩), .pointer (some ⟨w.heap.size + 1 + 1 + 1, 0, none⟩), .int .i64 0, .int .i64 x.1, .string s, .int .i64 0, .int .i64 0, .bool false, undef, .string s,
        .func (.func 68) #[] #[.pointer (some ⟨W0.heap.size, 0, none⟩)], .int .i64 x.1, undef, undef, undef, undef, undef, undef, undef, undef, undef, undef, undef, undef, undef], defers := [] }) ?assign ?body ?done ?stop
    case assign =>
      intro l x W K hK
      gi_wp2
      exact hK
    case body =>
      rintro l pre ⟨x, hx1, hx2⟩ W ⟨hp, hBW1⟩ hlt
      have g1 : Boxed W w.heap.size 9 (.string s) := (hBW1.block _ (by omega)).trans f1
      have g2 : Boxed W (w.heap.size + 1) 9 (.string ⟨#[]⟩) := (hBW1.block _ (by omega)).trans f2
      have g3 : Boxed W (w.heap.size + 1 + 1) 3 (.int .i64 0) := (hBW1.block _ (by omega)).trans f3
      have g4 : Boxed W (w.heap.size + 1 + 1 + 1) 24 (.int .i64 0) := (hBW1.block _ (by omega)).trans f4
      have gc1 := g1.cell
      have hx0 : x ≠ 0 := by omega
      by_cases hm : (s.size : Int) % x = 0
      · have gc2 := g2.cell
        have gf2 := g2.frozen
        have gc3 := g3.cell
        have gf3 := g3.frozen
        have gc4 := g4.cell
        have gf4 := g4.frozen
        have hmx : Try.prog.follows .mixedOrders = true := by kernel_rfl
        have hwr : IntKind.i64.wrap ((s.size : Int) / x) = (s.size : Int) / x := by
          have h1 : 0 ≤ (s.size : Int) / x := Int.ediv_nonneg (by omega) (by omega)
          have h2 : (s.size : Int) / x ≤ s.size := Int.ediv_le_self _ (by omega)
          generalize (s.size : Int) / x = q at h1 h2 ⊢
          simp [IntKind.wrap, IntKind.signed, IntKind.bits]
          omega
        have hr : rootR s ((pre ++ [(⟨x, hx1, hx2⟩ : PerI s)]).map (·.1)) = (s.extract 0 x.toNat, (s.size : Int) / x) := by
          rw [List.map_append]; exact rootR_app hp hm
        have hfin : KeepsFrom W1.heap.size W (((W.setCell ⟨w.heap.size + 1, 0, none⟩ (.string (s.extract 0 x.toNat))).setCell ⟨w.heap.size + 1 + 1, 0, none⟩ (.int .i64 ((s.size : Int) / x))).setCell ⟨w.heap.size + 1 + 1 + 1, 0, none⟩ (.int .i64 0)).drew ∧
            rootIx s w .ret (pre ++ [(⟨x, hx1, hx2⟩ : PerI s)]) (((W.setCell ⟨w.heap.size + 1, 0, none⟩ (.string (s.extract 0 x.toNat))).setCell ⟨w.heap.size + 1 + 1, 0, none⟩ (.int .i64 ((s.size : Int) / x))).setCell ⟨w.heap.size + 1 + 1 + 1, 0, none⟩ (.int .i64 0)).drew := by
          refine ⟨((((KeepsOthers.setCell _ _ _).trans (KeepsOthers.setCell _ _ _)).trans (KeepsOthers.setCell _ _ _)).trans (KeepsOthers.of_grownBy (grownBy_drew _) (by intro j o e; cases e))).from _, ⟨⟨⟨⟨rfl, pre.map (·.1), x, by simp, hp, hm⟩, ?_⟩, ?_⟩, ?_⟩, ?_⟩
          · rw [hr]; exact (((g2.set _).other (by omega) _).other (by omega) _).kept (grownBy_drew _) (by simp)
          · rw [hr]; exact (((g3.other (by omega) _).set _).other (by omega) _).kept (grownBy_drew _) (by simp)
          · exact (((g4.other (by omega) _).other (by omega) _).set _).kept (grownBy_drew _) (by simp)
          · exact ((((hBw.trans (hBW1.mono (by omega))).setCell (p := ⟨w.heap.size + 1, 0, none⟩) (by simp) _).setCell (p := ⟨w.heap.size + 1 + 1, 0, none⟩) (by simp; omega) _).setCell (p := ⟨w.heap.size + 1 + 1 + 1, 0, none⟩) (by simp; omega) _).grown (grownBy_drew _) (by have := hBw.size; have := hBW1.size; simp; omega) (by intro k e; cases e)
        gi_wp2
        clear b1 b2 b3 b4 hB0 hsz key hC hBW d1 d2 d3 d4 hB f1 f2 f3 f4 bN hB1
        refine wpIn_region_any hmx ?_
        refine wpAnyIn_inRound rfl l (by rfl) _ _ _ _ ?_
        change wpAnyIn _ _ _ _ _ _ _ _ _ (World.drew _)
        refine wpAnyIn_take (i := 1) (v := .int .i64 x) rfl rfl (by kernel_rfl) (by kernel_rfl) (by kernel_rfl) (fun _ _ _ h => h) ⟨Or.inl ⟨by rfl, fun w => ?_⟩, fun _ => rfl⟩ ?_
        · go_simp
        refine wpAnyIn_take (i := 5) (v := .int .i64 x) rfl rfl (by kernel_rfl) (by kernel_rfl) (by kernel_rfl) (fun _ _ _ h => h) ⟨Or.inl ⟨by rfl, fun w => ?_⟩, fun _ => rfl⟩ ?_
        · go_simp
        refine wpAnyIn_ready (rs := [0, 3]) (by kernel_rfl) (by simp) ?_
        refine AllReadyIn.cons rfl (fun K hK => ?_) (AllReadyIn.cons rfl (fun K hK => ?_) AllReadyIn.nil)
        · go_simp
          refine hK _ _ ?_
          clear hK K
          refine wpAnyIn_take (i := 2) (v := .string (s.extract 0 x.toNat)) rfl rfl (by kernel_rfl) (by kernel_rfl) (by kernel_rfl) (fun _ _ _ h => h) ⟨Or.inl ⟨by rfl, fun w => ?_⟩, fun _ => rfl⟩ ?_
          · go_simp
            exact fun h => absurd h (by omega)
          refine wpAnyIn_ready (rs := [3, 7]) (by kernel_rfl) (by simp) ?_
          refine AllReadyIn.cons rfl (fun K hK => ?_) (AllReadyIn.cons rfl (fun K hK => ?_) AllReadyIn.nil)
          · go_simp
            refine hK _ _ ?_
            clear hK K
            refine wpAnyIn_take (i := 4) (v := .int .i64 s.size) rfl rfl (by kernel_rfl) (by kernel_rfl) (by kernel_rfl) (fun _ _ _ h => h) ⟨Or.inl ⟨by rfl, fun w => ?_⟩, fun _ => rfl⟩ ?_
            · go_simp
            refine wpAnyIn_take (i := 6) (v := .int .i64 ((s.size : Int) / x)) rfl rfl (by kernel_rfl) (by kernel_rfl) (by kernel_rfl) (fun _ _ _ h => h) ⟨Or.inl ⟨by rfl, fun w => ?_⟩, fun _ => rfl⟩ ?_
            · go_simp
            refine wpAnyIn_ready (rs := [7]) (by kernel_rfl) (by simp) ?_
            refine AllReadyIn.cons rfl (fun K hK => ?_) AllReadyIn.nil
            go_simp
            refine hK _ _ ?_
            clear hK K
            refine wpAnyIn_ready (rs := [8]) (by kernel_rfl) (by simp) ?_
            refine AllReadyIn.cons rfl (fun K hK => ?_) AllReadyIn.nil
            go_simp
            refine hK _ _ ?_
            clear hK K
            refine wpAnyIn_ready (rs := [9]) (by kernel_rfl) (by simp) ?_
            refine AllReadyIn.cons rfl (fun K hK => ?_) AllReadyIn.nil
            go_simp
            refine hK _ _ ?_
            clear hK K
            refine wpAnyIn_done (by kernel_rfl) ?_ _
            gi_wp2
            exact hfin
          · go_simp
            refine hK _ _ ?_
            clear hK K
            refine wpAnyIn_ready (rs := [3]) (by kernel_rfl) (by simp) ?_
            refine AllReadyIn.cons rfl (fun K hK => ?_) AllReadyIn.nil
            go_simp
            refine hK _ _ ?_
            clear hK K
            refine wpAnyIn_take (i := 4) (v := .int .i64 s.size) rfl rfl (by kernel_rfl) (by kernel_rfl) (by kernel_rfl) (fun _ _ _ h => h) ⟨Or.inl ⟨by rfl, fun w => ?_⟩, fun _ => rfl⟩ ?_
            · go_simp
            refine wpAnyIn_take (i := 6) (v := .int .i64 ((s.size : Int) / x)) rfl rfl (by kernel_rfl) (by kernel_rfl) (by kernel_rfl) (fun _ _ _ h => h) ⟨Or.inl ⟨by rfl, fun w => ?_⟩, fun _ => rfl⟩ ?_
            · go_simp
            refine wpAnyIn_ready (rs := [8]) (by kernel_rfl) (by simp) ?_
            refine AllReadyIn.cons rfl (fun K hK => ?_) AllReadyIn.nil
            go_simp
            refine hK _ _ ?_
            clear hK K
            refine wpAnyIn_ready (rs := [9]) (by kernel_rfl) (by simp) ?_
            refine AllReadyIn.cons rfl (fun K hK => ?_) AllReadyIn.nil
            go_simp
            refine hK _ _ ?_
            clear hK K
            refine wpAnyIn_done (by kernel_rfl) ?_ _
            gi_wp2
            exact hfin
        · go_simp
          refine hK _ _ ?_
          clear hK K
          refine wpAnyIn_take (i := 4) (v := .int .i64 s.size) rfl rfl (by kernel_rfl) (by kernel_rfl) (by kernel_rfl) (fun _ _ _ h => h) ⟨Or.inl ⟨by rfl, fun w => ?_⟩, fun _ => rfl⟩ ?_
          · go_simp
          refine wpAnyIn_take (i := 6) (v := .int .i64 ((s.size : Int) / x)) rfl rfl (by kernel_rfl) (by kernel_rfl) (by kernel_rfl) (fun _ _ _ h => h) ⟨Or.inl ⟨by rfl, fun w => ?_⟩, fun _ => rfl⟩ ?_
          · go_simp
          refine wpAnyIn_ready (rs := [0]) (by kernel_rfl) (by simp) ?_
          refine AllReadyIn.cons rfl (fun K hK => ?_) AllReadyIn.nil
          go_simp
          refine hK _ _ ?_
          clear hK K
          refine wpAnyIn_take (i := 2) (v := .string (s.extract 0 x.toNat)) rfl rfl (by kernel_rfl) (by kernel_rfl) (by kernel_rfl) (fun _ _ _ h => h) ⟨Or.inl ⟨by rfl, fun w => ?_⟩, fun _ => rfl⟩ ?_
          · go_simp
            exact fun h => absurd h (by omega)
          refine wpAnyIn_ready (rs := [7]) (by kernel_rfl) (by simp) ?_
          refine AllReadyIn.cons rfl (fun K hK => ?_) AllReadyIn.nil
          go_simp
          refine hK _ _ ?_
          clear hK K
          refine wpAnyIn_ready (rs := [8]) (by kernel_rfl) (by simp) ?_
          refine AllReadyIn.cons rfl (fun K hK => ?_) AllReadyIn.nil
          go_simp
          refine hK _ _ ?_
          clear hK K
          refine wpAnyIn_ready (rs := [9]) (by kernel_rfl) (by simp) ?_
          refine AllReadyIn.cons rfl (fun K hK => ?_) AllReadyIn.nil
          go_simp
          refine hK _ _ ?_
          clear hK K
          refine wpAnyIn_done (by kernel_rfl) ?_ _
          gi_wp2
          exact hfin
      · gi_wp2
        refine ⟨KeepsFrom.refl _ _, Below.refl _ _, fun y hy => ?_, hBW1⟩
        rw [List.map_append] at hy
        rcases List.mem_append.1 hy with hy | hy
        · exact hp y hy
        · simp at hy; subst hy; exact hm
    case done =>
      rintro D ys W hD hys ⟨hp, hBW1⟩ hK
      have g1 : Boxed W w.heap.size 9 (.string s) := (hBW1.block _ (by omega)).trans f1
      have g2 : Boxed W (w.heap.size + 1) 9 (.string ⟨#[]⟩) := (hBW1.block _ (by omega)).trans f2
      have g3 : Boxed W (w.heap.size + 1 + 1) 3 (.int .i64 0) := (hBW1.block _ (by omega)).trans f3
      have g4 : Boxed W (w.heap.size + 1 + 1 + 1) 24 (.int .i64 0) := (hBW1.block _ (by omega)).trans f4
      have gc1 := g1.cell
      have gc2 := g2.cell
      have gf2 := g2.frozen
      have gc3 := g3.cell
      have gf3 := g3.frozen
      have gc4 := g4.cell
      have gf4 := g4.frozen
      gi_wp2
      have hK' := (((KeepsOthers.setCell W ⟨w.heap.size + 1, 0, none⟩ (.string s)).trans (KeepsOthers.setCell _ ⟨w.heap.size + 1 + 1, 0, none⟩ (.int .i64 1))).trans (KeepsOthers.setCell _ ⟨w.heap.size + 1 + 1 + 1, 0, none⟩ (.int .i64 0))).same D _ hK rfl
      refine ⟨by simp, .inl ⟨_, _, rfl, run_takeDeferred hK', ?_⟩⟩
      have hc2 := cell_kept (((g2.set (.string s)).other (B' := w.heap.size + 1 + 1) (by omega) (.int .i64 1)).other (B' := w.heap.size + 1 + 1 + 1) (by omega) (.int .i64 0)).cell (grownBy_putObj' _ D (.deferred none)) (fun r e => by cases e; exact ⟨_, hK', rfl⟩)
      have hc3 := cell_kept (((g3.other (B' := w.heap.size + 1) (by omega) (.string s)).set (.int .i64 1)).other (B' := w.heap.size + 1 + 1 + 1) (by omega) (.int .i64 0)).cell (grownBy_putObj' _ D (.deferred none)) (fun r e => by cases e; exact ⟨_, hK', rfl⟩)
      have hc4 := cell_kept (((g4.other (B' := w.heap.size + 1) (by omega) (.string s)).other (B' := w.heap.size + 1 + 1) (by omega) (.int .i64 1)).set (.int .i64 0)).cell (grownBy_putObj' _ D (.deferred none)) (fun r e => by cases e; exact ⟨_, hK', rfl⟩)
      have hr : rootR s (perL s) = (s, 1) := rootR_none (by rw [← hys]; exact hp)
      refine ⟨.tuple #[.string s, .int .i64 1, .int .i64 0], by simp [results, Try.f18, go_sem, hc2, hc3, hc4], by simp [hr], ?_⟩
      exact ((((hBw.trans (hBW1.mono (by omega))).setCell (p := ⟨w.heap.size + 1, 0, none⟩) (by simp) _).setCell (p := ⟨w.heap.size + 1 + 1, 0, none⟩) (by simp; omega) _).setCell (p := ⟨w.heap.size + 1 + 1 + 1, 0, none⟩) (by simp; omega) _).trans (belowK_b (w := w) (Nat.le_refl _) _ D _ _ (by omega) hK' rfl rfl)
    case stop =>
      rintro D c pre W hD hpre ⟨⟨⟨⟨⟨rfl, p, x, hpx, hp, hx⟩, g2⟩, g3⟩, g4⟩, hBW⟩ hK
      gi_wp2
      refine ⟨by simp, .inl ⟨_, _, rfl, run_takeDeferred hK, ?_⟩⟩
      have hr : rootR s (perL s) = rootR s (pre.map (·.1)) := by
        obtain ⟨t, ht⟩ := hpre
        rw [hpx] at ht
        rw [hpx, ← ht, List.append_assoc, List.singleton_append, rootR_app hp hx, rootR_app hp hx]
      have hc2 := cell_kept g2.cell (grownBy_putObj' _ D (.deferred none)) (fun r e => by cases e; exact ⟨_, hK, rfl⟩)
      have hc3 := cell_kept g3.cell (grownBy_putObj' _ D (.deferred none)) (fun r e => by cases e; exact ⟨_, hK, rfl⟩)
      have hc4 := cell_kept g4.cell (grownBy_putObj' _ D (.deferred none)) (fun r e => by cases e; exact ⟨_, hK, rfl⟩)
      rw [← hr] at hc2 hc3
      refine ⟨.tuple #[.string (rootR s (perL s)).1, .int .i64 (rootR s (perL s)).2, .int .i64 0], by simp [results, Try.f18, go_sem, hc2, hc3, hc4], by simp, ?_⟩
      exact hBW.trans (belowK_b (w := w) (Nat.le_refl _) W D _ _ (by omega) hK rfl rfl)
  · gi_wp2_with (gi_at_call 23; refine (callsIn_wide.2 (hC _ hB0)).mono ?_; rintro e W0 ⟨rfl, hBW⟩; obtain ⟨d1, d2, d3, d4, hB, hsW⟩ := key hBW; have dc2 := d2.cell; have dc3 := d3.cell; have dc4 := d4.cell; have df2 := d2.frozen; have df3 := d3.frozen; have df4 := d4.frozen)
    have e2 := (((d2.set (.string ⟨#[]⟩)).other (B' := w.heap.size + 1 + 1) (by omega) (.int .i64 0)).other (B' := w.heap.size + 1 + 1 + 1) (by omega) (.int .i64 c)).cell
    have e3 := (((d3.other (B' := w.heap.size + 1) (by omega) (.string ⟨#[]⟩)).set (.int .i64 0)).other (B' := w.heap.size + 1 + 1 + 1) (by omega) (.int .i64 c)).cell
    have e4 := (((d4.other (B' := w.heap.size + 1) (by omega) (.string ⟨#[]⟩)).other (B' := w.heap.size + 1 + 1) (by omega) (.int .i64 0)).set (.int .i64 c)).cell
    refine ⟨.tuple #[.string ⟨#[]⟩, .int .i64 0, .int .i64 c], by simp [results, Try.f18, go_sem, e2, e3, e4], by simp [hc0], ?_⟩
    exact ((hB.setCell (p := ⟨w.heap.size + 1, 0, none⟩) (by simp) _).setCell (p := ⟨w.heap.size + 1 + 1, 0, none⟩) (by simp; omega) _).setCell (p := ⟨w.heap.size + 1 + 1 + 1, 0, none⟩) (by simp; omega) _
end Go.Proofs
namespace Go.Vc
open Go.Proofs
set_option linter.unusedVariables false
set_option linter.unnecessarySimpa false
set_option linter.unusedSimpArgs false
section
variable {c : Ctx} {p nid : Nat} {a b : Code} {st : St} {K : Ex → St → Prop}
/- f18: tusche/repeat.Root (by a contract of its own) -/
def f18 (N : Nat) (a0 : ByteArray) : Option (ByteArray × Int × Int) :=
 if a0.size ≤ 1000 then (f23 N a0).bind fun x => if 0 ≤ x ∧ x ≤ 1000 ∧ 0 ≤ (rootR a0 (perL a0)).2 ∧ (rootR a0 (perL a0)).2 ≤ 1000 ∧ (rootR a0 (perL a0)).1.size ≤ 1000 then some (if x = 0 then ((rootR a0 (perL a0)).1, (rootR a0 (perL a0)).2, 0) else (emptyS, 0, x)) else none
 else none
def G18 (ds : List D) (d : D) : Prop := ∃ (N : Nat) (a0 : ByteArray) (r : ByteArray × Int × Int), ds = [strN a0] ∧ f18 N a0 = some r ∧ d = .tup [strN r.1, iN r.2.1, iN r.2.2]
theorem G18.lend {N : Nat} {a0 : ByteArray} {ρ : Type} {A : (ByteArray × Int × Int) → Option ρ} {q : ρ} {ds : List D} {K : D → Prop} (hd : ds = [strN a0]) (h : ∀ r, A r = some q → K (.tup [strN r.1, iN r.2.1, iN r.2.2])) (hF : (f18 N a0).bind A = some q) : ∃ d, (G18 ds d ∧ d.flatB = true) ∧ K d := by
  obtain ⟨r, hr, hA⟩ := bind_some hF
  exact ⟨_, ⟨⟨N, a0, r, hd, hr, rfl⟩, rfl⟩, h r hA⟩
theorem G18.step {N : Nat} {a0 : ByteArray} {ρ : Type} {A : (ByteArray × Int × Int) → Option ρ} {q : ρ} {ds : List D} {K : D → Prop} (hd : ds = [strN a0]) (h : ∀ r, A r = some q → K (.tup [strN r.1, iN r.2.1, iN r.2.2])) (hF : (f18 N a0).bind A = some q) : ∃ d, G18 ds d ∧ K d := by
  obtain ⟨r, hr, hA⟩ := bind_some hF
  exact ⟨_, ⟨N, a0, r, hd, hr, rfl⟩, h r hA⟩
open Go.RowKit in
theorem P18 : PureOK Try.prog 18 G18 := by
  rintro w Z vs ds d hZ hl hr hg ⟨N, a0, r, rfl, hF, rfl⟩
  obtain ⟨v, rfl, h1⟩ := vs_one hl hr
  obtain ⟨rfl, l1⟩ := rd_str h1
  simp only [f18] at hF
  split at hF
  · rename_i hs
    obtain ⟨c, hc, hA⟩ := bind_some hF
    split at hA
    · rename_i hb
      obtain ⟨hb1, hb2, hb3, hb4, hb5⟩ := hb
      have hA := Option.some.inj hA
      have hC : ∀ w1, Below w.heap.size w w1 → Calls Try.prog 23 #[.string a0] w1 fun e w' => (e = .returned (.int .i64 c) ∧ Below w1.heap.size w1 w') := fun w1 hb => by
        have h := P23 w1 (fun _ => False) [.string a0] [strN a0] (iN c) (fun _ h => h.elim) rfl (by
          intro i v x h1 h2
          cases i with
          | zero => simp at h1 h2; subst h1 h2; exact .v l1
          | succ i => simp at h1) (hg.same fun b hb' => hb.block b (hg.lt hb')) ⟨N, a0, c, rfl, hc, rfl⟩
        refine h.mono ?_
        rintro e w' ⟨v, rfl, hx, hv⟩
        cases hv with | v _ => exact ⟨rfl, hx.os, hx.tape, hx.output, hx.size, hx.old⟩
      have ok : ∀ n : Int, 0 ≤ n → n ≤ 1000 → pl (.int .i64 n) := fun n h1 h2 => by simp only [pl, IntKind.min, IntKind.max, IntKind.signed, IntKind.bits]; simp; omega
      have okS : ∀ q : ByteArray, q.size ≤ 1000 → pl (.string q) := fun q h => by show q.size ≤ maxLen; simp only [maxLen]; omega
      refine (Go.Proofs.Try.root_in a0 hs c w hC).mono ?_
      rintro e w' ⟨rfl, hB⟩
      refine ⟨_, rfl, Ext.of_below hB, ?_⟩
      have tup3 : ∀ (F : Nat → Prop) (x y z : Value) , pl x → pl y → pl z → Rd F w' (.tuple #[x, y, z]) (.tup [.v x, .v y, .v z]) := fun F x y z hx hy hz => .tup (vs := [x, y, z]) rfl fun i u d hu hd => by
        match i, hu, hd with
        | 0, hu, hd => cases hu; cases hd; exact .v hx
        | 1, hu, hd => cases hu; cases hd; exact .v hy
        | 2, hu, hd => cases hu; cases hd; exact .v hz
        | (n + 3), hu, hd => simp at hu
      by_cases h0 : c = 0
      · subst h0
        rw [if_pos rfl] at hA ⊢
        subst hA
        exact tup3 _ _ _ _ (okS _ hb5) (ok _ hb3 hb4) (ok _ (by omega) (by omega))
      · rw [if_neg h0] at hA ⊢
        subst hA
        exact tup3 _ _ _ _ (okS _ (by decide)) (ok _ (by omega) (by omega)) (ok _ hb1 hb2)
    · cases hA
  · cases hF
end
end Go.Vc
namespace Go.Vc
open Go.Proofs
set_option linter.unusedVariables false
set_option linter.unnecessarySimpa false
set_option linter.unusedSimpArgs false
section
variable {c : Ctx} {p nid : Nat} {a b : Code} {st : St} {K : Ex → St → Prop}
/- f70: strings.LastIndex (by a contract of its own) -/
def f70 (N : Nat) (a0 : ByteArray) (a1 : ByteArray) : Option (Int) :=
 (fun x : Int => if -1 ≤ x ∧ x ≤ 1000 ∧ a0.size ≤ 1000 then some x else none) (Lib.lastIndex a0.data.toList a1.data.toList)
def G70 (ds : List D) (d : D) : Prop := ∃ (N : Nat) (a0 : ByteArray) (a1 : ByteArray) (r : Int), ds = [strN a0, strN a1] ∧ f70 N a0 a1 = some r ∧ d = iN r
theorem G70.lend {N : Nat} {a0 : ByteArray} {a1 : ByteArray} {ρ : Type} {A : Int → Option ρ} {q : ρ} {ds : List D} {K : D → Prop} (hd : ds = [strN a0, strN a1]) (h : ∀ r, A r = some q → K (iN r)) (hF : (f70 N a0 a1).bind A = some q) : ∃ d, (G70 ds d ∧ d.flatB = true) ∧ K d := by
  obtain ⟨r, hr, hA⟩ := bind_some hF
  exact ⟨_, ⟨⟨N, a0, a1, r, hd, hr, rfl⟩, rfl⟩, h r hA⟩
theorem G70.step {N : Nat} {a0 : ByteArray} {a1 : ByteArray} {ρ : Type} {A : Int → Option ρ} {q : ρ} {ds : List D} {K : D → Prop} (hd : ds = [strN a0, strN a1]) (h : ∀ r, A r = some q → K (iN r)) (hF : (f70 N a0 a1).bind A = some q) : ∃ d, G70 ds d ∧ K d := by
  obtain ⟨r, hr, hA⟩ := bind_some hF
  exact ⟨_, ⟨N, a0, a1, r, hd, hr, rfl⟩, h r hA⟩
theorem P70 : PureOK Try.prog 70 G70 := pure_str2 (fun a b => .int .i64 (Lib.lastIndex a.data.toList b.data.toList)) (fun a b => -1 ≤ Lib.lastIndex a.data.toList b.data.toList ∧ Lib.lastIndex a.data.toList b.data.toList ≤ 1000 ∧ a.size ≤ 1000) (by
  rintro ds d ⟨N, a0, a1, r, rfl, hF, rfl⟩
  simp only [f70] at hF
  split at hF
  · rename_i h
    cases hF
    exact ⟨a0, a1, rfl, rfl, h⟩
  · cases hF) fun a b w _ _ _ h => ⟨by simp only [pl, IntKind.min, IntKind.max, IntKind.signed, IntKind.bits]; simp; omega, Go.Proofs.Try.strings_LastIndex a b (by omega) w⟩
end
end Go.Vc
namespace Go.Vc
open Go.Proofs
set_option linter.unusedVariables false
set_option linter.unnecessarySimpa false
set_option linter.unusedSimpArgs false
section
variable {c : Ctx} {p nid : Nat} {a b : Code} {st : St} {K : Ex → St → Prop}
/- f51: tusche/repeat.covers -/
def f51_c7 : Option (Bool) :=
 some (true)
def Lf51_c7 : Lp (Unit) Unit (Bool) := lp0 ⟨[], [], [], []⟩ (fun _ => []) (fun _ => []) (fun _ => f51_c7)
theorem Ef51_c7 : (Lf51_c7).E () = f51_c7 := rfl
def f51_2b (r2 : Int → Option (Bool)) (a0 : ByteArray) (a1 : Int) (N : Nat) (k0 : Option (Bool)) (to5 : Int) : Option (Bool) :=
 bif decide (to5 < (ByteArray.size a0 : Int)) then ((subS a0 0 (min (W (to5 + a1)) (ByteArray.size a0 : Int))).bind fun x1 =>
 (subS a0 0 a1).bind fun x2 =>
 (f70 N x1 x2).bind fun x3 =>
 bif decide ((W (x3 + a1)) ≤ to5) then (some (false))
 else (r2 (W (x3 + a1))))
 else k0
def f51_2 (a0 : ByteArray) (a1 : Int) (N : Nat) (k0 : Option (Bool)) : Nat → Int → Option (Bool)
  | 0, _ => none
  | n + 1, to5 => f51_2b (f51_2 a0 a1 N k0 n) a0 a1 N k0 to5
def Lf51_2 (a0 : ByteArray) (a1 : Int) (N : Nat) (k0 : Option (Bool)) : Lp (Nat × Int) Unit (Bool) := lp0 ⟨[0, 1, 5], [], [], []⟩ (fun (_, to5) => [.dat (strN a0), .dat (iN a1), .dat (iN to5)]) (fun (_, _) => []) (fun (n, to5) => f51_2 a0 a1 N k0 n to5)
theorem Ef51_2 {a0 a1 N k0 n to5} : (Lf51_2 a0 a1 N k0).E (n, to5) = f51_2 a0 a1 N k0 n to5 := rfl
def f51 (N : Nat) (a0 : ByteArray) (a1 : Int) : Option (Bool) :=
 joinK f51_c7 fun k0 =>
 f51_2 a0 a1 N k0 N (0 : Int)
def G51 (ds : List D) (d : D) : Prop := ∃ (N : Nat) (a0 : ByteArray) (a1 : Int) (r : Bool), ds = [strN a0, iN a1] ∧ f51 N a0 a1 = some r ∧ d = bN r
theorem G51.lend {N : Nat} {a0 : ByteArray} {a1 : Int} {ρ : Type} {A : Bool → Option ρ} {q : ρ} {ds : List D} {K : D → Prop} (hd : ds = [strN a0, iN a1]) (h : ∀ r, A r = some q → K (bN r)) (hF : (f51 N a0 a1).bind A = some q) : ∃ d, (G51 ds d ∧ d.flatB = true) ∧ K d := by
  obtain ⟨r, hr, hA⟩ := bind_some hF
  exact ⟨_, ⟨⟨N, a0, a1, r, hd, hr, rfl⟩, rfl⟩, h r hA⟩
theorem G51.step {N : Nat} {a0 : ByteArray} {a1 : Int} {ρ : Type} {A : Bool → Option ρ} {q : ρ} {ds : List D} {K : D → Prop} (hd : ds = [strN a0, iN a1]) (h : ∀ r, A r = some q → K (bN r)) (hF : (f51 N a0 a1).bind A = some q) : ∃ d, G51 ds d ∧ K d := by
  obtain ⟨r, hr, hA⟩ := bind_some hF
  exact ⟨_, ⟨N, a0, a1, r, hd, hr, rfl⟩, h r hA⟩
set_option maxRecDepth 20000 in
set_option maxHeartbeats 4000000 in
theorem P51 : PureOK Try.prog 51 G51 := by
  refine pure_of_vc (c := mkCtx tyTree [(70, true, lendPg [[0], [0]] G70)]) rfl tyOK (ctx_lend (callable Try.func70 rfl rfl) P70 (ctx_nil)) [[0]] 2 Try.func51 rfl rfl (by decide) (by kernel_rfl) ?_
  rintro ds d ⟨N, a0, a1, r, rfl, hF, rfl⟩ hok
  clear hok
  refine ⟨rfl, ?_⟩
  show vc _ _ _ _ ⟨[(0, .dat (strN a0)), (1, .dat (iN a1))], []⟩ _
  unfold f51 at hF
  repeat' (first
    | ((with_reducible first | refine q0 _ _ ?_ | refine q1 _ _ _ _ ?_ | refine q2 _ _ _ ?_); clear Q q0 q1 q2)
    | ((with_reducible first | refine seq_op ?hx (fun Q q0 q1 q2 => ?_) | refine draw_op ?hx (fun Q q0 q1 q2 => ?_)); (case hx => exact rfl); conv => whnf)
    | ((with_reducible refine cond_id ?_); (first | ((refine condKT rfl ?hy ?_); (case hy => first | assumption | exact notT (by assumption) | exact rfl)) | ((refine condKF rfl ?hy ?_); (case hy => first | assumption | exact notF (by assumption) | exact rfl)) | (revert hF; (with_reducible refine condF ?hx ?_ ?_); (case hx => exact rfl); all_goals (intro hc hF))))
    | ((with_reducible refine seq_nil ?_); (first | ((with_reducible refine hR _ ?_); clear R hR) | ((with_reducible refine hL _ ?_); clear L hL)))
    | ((with_reducible refine draw_nil ?_); (with_reducible refine hR _ _ ?hx ?_); (case hx => kernel_rfl); (first | clear R hR | clear hR))
    | ((with_reducible first | refine int_step ?_); conv => whnf)
    | (with_reducible first | refine vc_block ?_ | refine vc_skip ?_ | refine vc_ret ?_ | refine vc_exit ?_ | refine vc_region (fun R hR => ?_) | refine k_seq_ret ?_ | refine k_seq_exit ?_ | refine k_blk ?_ | refine k_blk_ret ?_ | refine k_blk_here ?_ | refine k_loop_ret ?_ | refine k_loop_exit ?_)
    | ((with_reducible refine vc_seqN [7] ?hx ?_); (case hx => exact rfl))
    | ((with_reducible refine vc_draw ?hx (fun R hR => ?_)); (case hx => exact rfl))
    | (revert hF; (refine Lp.cut0 Lf51_c7 f51_c7 7 rfl rfl ?_ ?_); (intro hF); rotate_left; (rintro _ hF; dsimp only [Lf51_c7] at hF; unfold f51_c7 at hF); rotate_right)
    | exact Lp.head Ef51_c7 hF () ⟨_, rfl, rfl, rfl, rfl⟩ rfl
    | (revert hF; (refine Lp.loop Ef51_2 () rfl ⟨_, rfl, rfl, rfl, rfl⟩ rfl (fun _ => rfl) ?_); rintro n to5 hF; dsimp only [Lf51_2, f51_2] at hF; unfold f51_2b at hF)
    | exact Lp.back Ef51_2 hF () ⟨_, rfl, rfl, rfl, rfl⟩ rfl
    | (revert hF; (with_reducible refine G70.lend ?hx ?_); (case hx => exact rfl); intro v hF; conv => whnf)
    | (revert hF; (refine subS_step ?_); intro x hF; conv => whnf)
    | ((with_reducible first | refine k_blk_out ?hx ?_ | refine vc_condT ?hx ?_); (case hx => exact rfl))
    | ((refine row_all ?hn ?_); (case hn => first | exact rfl | (simp; done) | (simp; omega)); conv => whnf)
    | ((with_reducible refine le_step ?hn ?_); (case hn => first | exact rfl | assumption | omega); conv => whnf)
    | ((refine ⟨?hx, ?_⟩); (case hx => exact ⟨rfl, Nat.le_of_ble_eq_true rfl, rfl⟩); conv => whnf)
    | ((with_reducible refine ex_step ?_); conv => whnf)
    | ((with_reducible refine both_T ?hx ?_); (case hx => first | exact rfl | assumption | exact notT (by assumption)); conv => whnf)
    | ((with_reducible refine both_F ?hx ?_); (case hx => first | exact rfl | assumption | exact notF (by assumption)); conv => whnf)
    | (revert hF; (with_reducible refine ite_step ?_ ?_) <;> (intro hc hF; conv => whnf))
    | ((with_reducible refine vc_condF ?hx ?_); (case hx => exact rfl))
    | (show retD _ _ _ _ _ _; conv => whnf)
    | ((refine ⟨?hx, trivial⟩); (case hx => (cases hF; exact rfl)))
    | ((refine ⟨?hx, ?_⟩); (case hx => decide); conv => whnf)
    | with_reducible refine k_seq ?_
    | (have hF : (none : Option _) = some _ := hF; cases hF))
end
end Go.Vc
namespace Go.Vc
open Go.Proofs
set_option linter.unusedVariables false
set_option linter.unnecessarySimpa false
set_option linter.unusedSimpArgs false
section
variable {c : Ctx} {p nid : Nat} {a b : Code} {st : St} {K : Ex → St → Prop}
/- f20: tusche/repeat.Covers -/
def f20_c10 (out5 : List Int) : Option ((List Int) × Int) :=
 some (out5, (0 : Int))
def Lf20_c10 : Lp ((List Int)) (Nat) ((List Int) × Int) := ⟨⟨[5], [90005], [(.slot 5, 90005, 3, 1)], []⟩, fun out5 => [.rs 90005 (List.length out5)], fun out5 => [.row 3 1 (List.map iN out5)], fun out5 => f20_c10 out5, fun _ m0 => [.rs 90005 m0], fun out5 _ => [.row 3 1 (List.map iN out5)], fun out5 => List.length out5, fun _ => rfl, fun _ => rfl⟩
theorem Ef20_c10 {out5} : (Lf20_c10).E out5 = f20_c10 out5 := rfl
def f20_6b (r6 : (List Int) → Int → Option ((List Int) × Int)) (a0 : ByteArray) (N : Nat) (k0 : (List Int) → Option ((List Int) × Int)) (out5 : List Int) (k6 : Int) : Option ((List Int) × Int) :=
 bif decide (k6 ≤ (ByteArray.size a0 : Int)) then ((f51 N a0 k6).bind fun x2 =>
 bif x2 then ((app 8 out5 [k6]).bind fun x3 =>
 r6 x3 (W (k6 + (1 : Int))))
 else (r6 out5 (W (k6 + (1 : Int)))))
 else (k0 out5)
def f20_6 (a0 : ByteArray) (N : Nat) (k0 : (List Int) → Option ((List Int) × Int)) : Nat → (List Int) → Int → Option ((List Int) × Int)
  | 0, _, _ => none
  | n + 1, out5, k6 => f20_6b (f20_6 a0 N k0 n) a0 N k0 out5 k6
def Lf20_6 (a0 : ByteArray) (N : Nat) (k0 : (List Int) → Option ((List Int) × Int)) : Lp (Nat × (List Int) × Int) (Nat) ((List Int) × Int) := ⟨⟨[0, 5, 6], [90005], [(.slot 5, 90005, 3, 1)], []⟩, fun (_, out5, k6) => [.dat (strN a0), .rs 90005 (List.length out5), .dat (iN k6)], fun (_, out5, _) => [.row 3 1 (List.map iN out5)], fun (n, out5, k6) => f20_6 a0 N k0 n out5 k6, fun (_, _, k6) m0 => [.dat (strN a0), .rs 90005 m0, .dat (iN k6)], fun (_, out5, _) _ => [.row 3 1 (List.map iN out5)], fun (_, out5, _) => List.length out5, fun _ => rfl, fun _ => rfl⟩
theorem Ef20_6 {a0 N k0 n out5 k6} : (Lf20_6 a0 N k0).E (n, out5, k6) = f20_6 a0 N k0 n out5 k6 := rfl
def f20 (N : Nat) (a0 : ByteArray) : Option ((List Int) × Int) :=
 (f23 N a0).bind fun x1 =>
 bif decide (¬ x1 = (0 : Int)) then (some ([], x1))
 else (joinK f20_c10 fun k0 =>
 f20_6 a0 N k0 N [] (1 : Int))
def G20 (ds : List D) (d : D) : Prop := ∃ (N : Nat) (a0 : ByteArray) (r : (List Int) × Int), ds = [strN a0] ∧ f20 N a0 = some r ∧ d = .tup [sl_iN r.1, iN r.2]
theorem G20.step {N : Nat} {a0 : ByteArray} {ρ : Type} {A : ((List Int) × Int) → Option ρ} {q : ρ} {ds : List D} {K : D → Prop} (hd : ds = [strN a0]) (h : ∀ r, A r = some q → K (.tup [sl_iN r.1, iN r.2])) (hF : (f20 N a0).bind A = some q) : ∃ d, G20 ds d ∧ K d := by
  obtain ⟨r, hr, hA⟩ := bind_some hF
  exact ⟨_, ⟨N, a0, r, hd, hr, rfl⟩, h r hA⟩
set_option maxRecDepth 20000 in
set_option maxHeartbeats 4000000 in
theorem P20 : PureOK Try.prog 20 G20 := by
  refine pure_of_vc (c := mkCtx tyTree [(51, true, lendPg [[0], [0]] G51), (23, true, lendPg [[0]] G23)]) rfl tyOK (ctx_lend (callable Try.func51 rfl rfl) P51 (ctx_lend (callable Try.func23 rfl rfl) P23 (ctx_nil))) [[1], [0]] 1 Try.func20 rfl rfl (by decide) (by kernel_rfl) ?_
  rintro ds d ⟨N, a0, r, rfl, hF, rfl⟩ hok
  clear hok
  refine ⟨rfl, ?_⟩
  show vc _ _ _ _ ⟨[(0, .dat (strN a0))], []⟩ _
  unfold f20 at hF
  repeat' (first
    | ((with_reducible first | refine q0 _ _ ?_ | refine q1 _ _ _ _ ?_ | refine q2 _ _ _ ?_); clear Q q0 q1 q2)
    | ((with_reducible first | refine seq_op ?hx (fun Q q0 q1 q2 => ?_)); (case hx => exact rfl); conv => whnf)
    | ((with_reducible refine cond_id ?_); (first | ((refine condKT rfl ?hy ?_); (case hy => first | assumption | exact notT (by assumption) | exact rfl)) | ((refine condKF rfl ?hy ?_); (case hy => first | assumption | exact notF (by assumption) | exact rfl)) | (revert hF; (with_reducible refine condF ?hx ?_ ?_); (case hx => exact rfl); all_goals (intro hc hF))))
    | ((with_reducible refine seq_nil ?_); (first | ((with_reducible refine hR _ ?_); clear R hR) | ((with_reducible refine hL _ ?_); clear L hL)))
    | ((with_reducible first | refine int_step ?_ | refine len_step ?_); conv => whnf)
    | (with_reducible first | refine vc_block ?_ | refine vc_skip ?_ | refine vc_ret ?_ | refine vc_exit ?_ | refine vc_region (fun R hR => ?_) | refine k_seq_ret ?_ | refine k_seq_exit ?_ | refine k_blk ?_ | refine k_blk_ret ?_ | refine k_blk_here ?_ | refine k_loop_ret ?_ | refine k_loop_exit ?_)
    | ((with_reducible refine vc_seqN [10] ?hx ?_); (case hx => exact rfl))
    | (revert hF; (refine Lp.cut0 Lf20_c10 f20_c10 10 rfl rfl ?_ ?_); (intro hF); rotate_left; (rintro out5 hF; dsimp only [Lf20_c10] at hF; unfold f20_c10 at hF); rotate_right)
    | exact Lp.head Ef20_c10 hF _ ⟨_, rfl, rfl, rfl, rfl⟩ (by first | exact rfl | ((try dsimp only [Lf20_c10]); first | assumption | omega | (simp only [List.length_set]; done)))
    | (revert hF; (refine Lp.loop Ef20_6 _ rfl ⟨_, rfl, rfl, rfl, rfl⟩ (by first | exact rfl | ((try dsimp only [Lf20_6]); first | assumption | omega | (simp only [List.length_set]; done))) (fun _ => rfl) ?_); rintro n ⟨out5, k6⟩ hF; dsimp only [Lf20_6, f20_6] at hF; unfold f20_6b at hF)
    | exact Lp.back Ef20_6 hF _ ⟨_, rfl, rfl, rfl, rfl⟩ (by first | exact rfl | ((try dsimp only [Lf20_6]); first | assumption | omega | (simp only [List.length_set]; done)))
    | (revert hF; (with_reducible refine G23.lend ?hx ?_); (case hx => exact rfl); intro v hF; conv => whnf)
    | (revert hF; (with_reducible refine G51.lend ?hx ?_); (case hx => exact rfl); intro v hF; conv => whnf)
    | ((with_reducible first | refine k_blk_out ?hx ?_ | refine vc_condT ?hx ?_); (case hx => exact rfl))
    | ((with_reducible have hG := app_fact hF); clear hF; (first | ((refine app_row hG ?hn ?hs (fun q hF => ?_)); (case hn => first | exact rfl | assumption | omega); (case hs => exact rfl)) | ((refine app_nil (d := iN) hG ?hs (fun q hF => ?_)); (case hs => exact rfl)) | ((refine app_gen (d := iN) hG ?ho ?hn ?hs (fun q hF => ?_)); (case ho => exact rfl); (case hn => exact rfl); (case hs => exact rfl))); clear hG; conv => whnf)
    | ((refine row_all ?hn ?_); (case hn => first | exact rfl | (simp; done) | (simp; omega)); conv => whnf)
    | ((with_reducible refine le_step ?hn ?_); (case hn => first | exact rfl | assumption | omega); conv => whnf)
    | ((refine ⟨?hx, ?_⟩); (case hx => exact ⟨rfl, Nat.le_of_ble_eq_true rfl, rfl⟩); conv => whnf)
    | ((with_reducible refine ex_step ?_); conv => whnf)
    | ((with_reducible refine both_T ?hx ?_); (case hx => first | exact rfl | assumption | exact notT (by assumption)); conv => whnf)
    | ((with_reducible refine both_F ?hx ?_); (case hx => first | exact rfl | assumption | exact notF (by assumption)); conv => whnf)
    | (revert hF; (with_reducible refine ite_step ?_ ?_) <;> (intro hc hF; conv => whnf))
    | ((with_reducible refine vc_condF ?hx ?_); (case hx => exact rfl))
    | (show retD _ _ _ _ _ _; conv => whnf)
    | ((refine ⟨?hx, trivial⟩); (case hx => (cases hF; exact rfl)))
    | ((refine ⟨?hx, ?_⟩); (case hx => decide); conv => whnf)
    | with_reducible refine k_seq ?_
    | (have hF : (none : Option _) = some _ := hF; cases hF))
end
end Go.Vc
namespace Go.Vc
open Go.Proofs
set_option linter.unusedVariables false
set_option linter.unnecessarySimpa false
set_option linter.unusedSimpArgs false
section
variable {c : Ctx} {p nid : Nat} {a b : Code} {st : St} {K : Ex → St → Prop}
/- f22: tusche/tuschelaw08.numbers -/
def f22_c8 : Option (Bool) :=
 some (true)
def Lf22_c8 : Lp (Unit) Unit (Bool) := lp0 ⟨[], [], [], []⟩ (fun _ => []) (fun _ => []) (fun _ => f22_c8)
theorem Ef22_c8 : (Lf22_c8).E () = f22_c8 := rfl
def f22_4b (r4 : Int → Option (Bool)) (a0 : List Int) (a1 : List Int) (k0 : Option (Bool)) (i5 : Int) : Option (Bool) :=
 bif decide (i5 < (List.length a0 : Int)) then ((ix a0 i5).bind fun x1 =>
 (ix a1 i5).bind fun x2 =>
 bif decide (¬ x1 = x2) then (some (false))
 else (r4 (W (i5 + (1 : Int)))))
 else k0
def f22_4 (a0 : List Int) (a1 : List Int) (k0 : Option (Bool)) : Nat → Int → Option (Bool)
  | 0, _ => none
  | n + 1, i5 => f22_4b (f22_4 a0 a1 k0 n) a0 a1 k0 i5
def Lf22_4 (a0 : List Int) (a1 : List Int) (k0 : Option (Bool)) : Lp (Nat × Int) Unit (Bool) := lp0 ⟨[0, 1, 5], [], [], []⟩ (fun (_, i5) => [.dat (sl_iN a0), .dat (sl_iN a1), .dat (iN i5)]) (fun (_, _) => []) (fun (n, i5) => f22_4 a0 a1 k0 n i5)
theorem Ef22_4 {a0 a1 k0 n i5} : (Lf22_4 a0 a1 k0).E (n, i5) = f22_4 a0 a1 k0 n i5 := rfl
def f22 (N : Nat) (a0 : List Int) (a1 : List Int) : Option (Bool) :=
 bif decide (¬ (List.length a0 : Int) = (List.length a1 : Int)) then (some (false))
 else (joinK f22_c8 fun k0 =>
 f22_4 a0 a1 k0 N (0 : Int))
def G22 (ds : List D) (d : D) : Prop := ∃ (N : Nat) (a0 : List Int) (a1 : List Int) (r : Bool), ds = [sl_iN a0, sl_iN a1] ∧ f22 N a0 a1 = some r ∧ d = bN r
theorem G22.lend {N : Nat} {a0 : List Int} {a1 : List Int} {ρ : Type} {A : Bool → Option ρ} {q : ρ} {ds : List D} {K : D → Prop} (hd : ds = [sl_iN a0, sl_iN a1]) (h : ∀ r, A r = some q → K (bN r)) (hF : (f22 N a0 a1).bind A = some q) : ∃ d, (G22 ds d ∧ d.flatB = true) ∧ K d := by
  obtain ⟨r, hr, hA⟩ := bind_some hF
  exact ⟨_, ⟨⟨N, a0, a1, r, hd, hr, rfl⟩, rfl⟩, h r hA⟩
theorem G22.step {N : Nat} {a0 : List Int} {a1 : List Int} {ρ : Type} {A : Bool → Option ρ} {q : ρ} {ds : List D} {K : D → Prop} (hd : ds = [sl_iN a0, sl_iN a1]) (h : ∀ r, A r = some q → K (bN r)) (hF : (f22 N a0 a1).bind A = some q) : ∃ d, G22 ds d ∧ K d := by
  obtain ⟨r, hr, hA⟩ := bind_some hF
  exact ⟨_, ⟨N, a0, a1, r, hd, hr, rfl⟩, h r hA⟩
set_option maxRecDepth 20000 in
set_option maxHeartbeats 4000000 in
theorem P22 : PureOK Try.prog 22 G22 := by
  refine pure_of_vc (c := mkCtx tyTree []) rfl tyOK (ctx_nil) [[0]] 2 Try.func22 rfl rfl (by decide) (by kernel_rfl) ?_
  rintro ds d ⟨N, a0, a1, r, rfl, hF, rfl⟩ hok
  clear hok
  refine ⟨rfl, ?_⟩
  show vc _ _ _ _ ⟨[(0, .dat (sl_iN a0)), (1, .dat (sl_iN a1))], []⟩ _
  unfold f22 at hF
  repeat' (first
    | ((with_reducible first | refine q0 _ _ ?_ | refine q1 _ _ _ _ ?_ | refine q2 _ _ _ ?_); clear Q q0 q1 q2)
    | ((with_reducible first | refine seq_op ?hx (fun Q q0 q1 q2 => ?_) | refine draw_op ?hx (fun Q q0 q1 q2 => ?_)); (case hx => exact rfl); conv => whnf)
    | ((with_reducible refine cond_id ?_); (first | ((refine condKT rfl ?hy ?_); (case hy => first | assumption | exact notT (by assumption) | exact rfl)) | ((refine condKF rfl ?hy ?_); (case hy => first | assumption | exact notF (by assumption) | exact rfl)) | (revert hF; (with_reducible refine condF ?hx ?_ ?_); (case hx => exact rfl); all_goals (intro hc hF))))
    | ((with_reducible refine seq_nil ?_); (first | ((with_reducible refine hR _ ?_); clear R hR) | ((with_reducible refine hL _ ?_); clear L hL)))
    | ((with_reducible refine draw_nil ?_); (with_reducible refine hR _ _ ?hx ?_); (case hx => kernel_rfl); (first | clear R hR | clear hR))
    | ((with_reducible first | refine int_step ?_ | refine len_step ?_ | refine idx2 (by assumption) ?_ | refine idx3 (by assumption) ?_); conv => whnf)
    | (with_reducible first | refine vc_block ?_ | refine vc_skip ?_ | refine vc_ret ?_ | refine vc_exit ?_ | refine vc_region (fun R hR => ?_) | refine k_seq_ret ?_ | refine k_seq_exit ?_ | refine k_blk ?_ | refine k_blk_ret ?_ | refine k_blk_here ?_ | refine k_loop_ret ?_ | refine k_loop_exit ?_)
    | ((with_reducible refine vc_seqN [8] ?hx ?_); (case hx => exact rfl))
    | ((with_reducible refine vc_draw ?hx (fun R hR => ?_)); (case hx => exact rfl))
    | (revert hF; (refine Lp.cut0 Lf22_c8 f22_c8 8 rfl rfl ?_ ?_); (intro hF); rotate_left; (rintro _ hF; dsimp only [Lf22_c8] at hF; unfold f22_c8 at hF); rotate_right)
    | exact Lp.head Ef22_c8 hF () ⟨_, rfl, rfl, rfl, rfl⟩ rfl
    | (revert hF; (refine Lp.loop Ef22_4 () rfl ⟨_, rfl, rfl, rfl, rfl⟩ rfl (fun _ => rfl) ?_); rintro n i5 hF; dsimp only [Lf22_4, f22_4] at hF; unfold f22_4b at hF)
    | exact Lp.back Ef22_4 hF () ⟨_, rfl, rfl, rfl, rfl⟩ rfl
    | ((with_reducible first | refine k_blk_out ?hx ?_ | refine vc_condT ?hx ?_); (case hx => exact rfl))
    | (revert hF; (with_reducible refine idx1 ?hn ?_); (case hn => first | exact rfl | exact (List.length_map _) | assumption | omega | simp); intro x hx hF; conv => whnf)
    | ((refine row_all ?hn ?_); (case hn => first | exact rfl | (simp; done) | (simp; omega)); conv => whnf)
    | ((with_reducible refine le_step ?hn ?_); (case hn => first | exact rfl | assumption | omega); conv => whnf)
    | ((refine ⟨?hx, ?_⟩); (case hx => exact ⟨rfl, Nat.le_of_ble_eq_true rfl, rfl⟩); conv => whnf)
    | ((with_reducible refine ex_step ?_); conv => whnf)
    | ((with_reducible refine both_T ?hx ?_); (case hx => first | exact rfl | assumption | exact notT (by assumption)); conv => whnf)
    | ((with_reducible refine both_F ?hx ?_); (case hx => first | exact rfl | assumption | exact notF (by assumption)); conv => whnf)
    | (revert hF; (with_reducible refine ite_step ?_ ?_) <;> (intro hc hF; conv => whnf))
    | ((with_reducible refine vc_condF ?hx ?_); (case hx => exact rfl))
    | (show retD _ _ _ _ _ _; conv => whnf)
    | ((refine ⟨?hx, trivial⟩); (case hx => (cases hF; exact rfl)))
    | ((refine ⟨?hx, ?_⟩); (case hx => decide); conv => whnf)
    | with_reducible refine k_seq ?_
    | (have hF : (none : Option _) = some _ := hF; cases hF))
end
end Go.Vc
namespace Go.Vc
open Go.Proofs
set_option linter.unusedVariables false
set_option linter.unnecessarySimpa false
set_option linter.unusedSimpArgs false
section
variable {c : Ctx} {p nid : Nat} {a b : Code} {st : St} {K : Ex → St → Prop}
/- f52: tusche/repeat.between -/
def f52 (N : Nat) (a0 : Int) (a1 : Int) (a2 : Int) : Option (Bool) :=
 bif decide (a0 ≤ a1) then (some (decide (a1 ≤ a2)))
 else (some (false))
def G52 (ds : List D) (d : D) : Prop := ∃ (N : Nat) (a0 : Int) (a1 : Int) (a2 : Int) (r : Bool), ds = [iN a0, iN a1, iN a2] ∧ f52 N a0 a1 a2 = some r ∧ d = bN r
theorem G52.lend {N : Nat} {a0 : Int} {a1 : Int} {a2 : Int} {ρ : Type} {A : Bool → Option ρ} {q : ρ} {ds : List D} {K : D → Prop} (hd : ds = [iN a0, iN a1, iN a2]) (h : ∀ r, A r = some q → K (bN r)) (hF : (f52 N a0 a1 a2).bind A = some q) : ∃ d, (G52 ds d ∧ d.flatB = true) ∧ K d := by
  obtain ⟨r, hr, hA⟩ := bind_some hF
  exact ⟨_, ⟨⟨N, a0, a1, a2, r, hd, hr, rfl⟩, rfl⟩, h r hA⟩
theorem G52.step {N : Nat} {a0 : Int} {a1 : Int} {a2 : Int} {ρ : Type} {A : Bool → Option ρ} {q : ρ} {ds : List D} {K : D → Prop} (hd : ds = [iN a0, iN a1, iN a2]) (h : ∀ r, A r = some q → K (bN r)) (hF : (f52 N a0 a1 a2).bind A = some q) : ∃ d, G52 ds d ∧ K d := by
  obtain ⟨r, hr, hA⟩ := bind_some hF
  exact ⟨_, ⟨N, a0, a1, a2, r, hd, hr, rfl⟩, h r hA⟩
set_option maxRecDepth 20000 in
set_option maxHeartbeats 4000000 in
theorem P52 : PureOK Try.prog 52 G52 := by
  refine pure_of_vc (c := mkCtx tyTree []) rfl tyOK (ctx_nil) [[0]] 3 Try.func52 rfl rfl (by decide) (by kernel_rfl) ?_
  rintro ds d ⟨N, a0, a1, a2, r, rfl, hF, rfl⟩ hok
  clear hok
  refine ⟨rfl, ?_⟩
  show vc _ _ _ _ ⟨[(0, .dat (iN a0)), (1, .dat (iN a1)), (2, .dat (iN a2))], []⟩ _
  unfold f52 at hF
  repeat' (first
    | ((with_reducible first | refine q0 _ _ ?_ | refine q1 _ _ _ _ ?_ | refine q2 _ _ _ ?_); clear Q q0 q1 q2)
    | ((with_reducible first | refine seq_op ?hx (fun Q q0 q1 q2 => ?_)); (case hx => exact rfl); conv => whnf)
    | ((with_reducible first | refine seq_off ?hx ?_ | refine seq_off0 ?hx ?_); (case hx => exact rfl))
    | ((with_reducible refine seq_id ?_); (first | ((first | refine seq_opK rfl ?hy (fun Q q0 q1 q2 => ?_) | refine seq_opK0 rfl ?hy (fun Q q0 q1 q2 => ?_)); (case hy => first | assumption | exact notT (by assumption) | exact rfl); conv => whnf) | ((first | refine seq_offK rfl ?hy ?_ | refine seq_offK0 rfl ?hy ?_); (case hy => first | assumption | exact notF (by assumption) | exact rfl)) | (revert hF; (with_reducible first | refine seq_opF ?hx ?_ ?_ | refine seq_opF0 ?hx ?_ ?_); (case hx => exact rfl); (intro hc hF Q q0 q1 q2; conv => whnf); rotate_left; (intro hc hF); rotate_right) | (revert hF; (with_reducible first | refine seq_opN ?hx ?_ ?_ | refine seq_opN0 ?hx ?_ ?_); (case hx => exact rfl); (intro hc hF); rotate_left; (intro hc hF Q q0 q1 q2; conv => whnf); rotate_right)))
    | ((with_reducible refine seq_nil ?_); (first | ((with_reducible refine hR _ ?_); clear R hR) | ((with_reducible refine hL _ ?_); clear L hL)))
    | ((with_reducible first | refine int_step ?_); conv => whnf)
    | (with_reducible first | refine vc_skip ?_ | refine vc_ret ?_ | refine vc_region (fun R hR => ?_) | refine k_seq_ret ?_)
    | ((with_reducible refine vc_seqN [] ?hx ?_); (case hx => exact rfl))
    | ((refine row_all ?hn ?_); (case hn => first | exact rfl | (simp; done) | (simp; omega)); conv => whnf)
    | ((with_reducible refine le_step ?hn ?_); (case hn => first | exact rfl | assumption | omega); conv => whnf)
    | ((refine ⟨?hx, ?_⟩); (case hx => exact ⟨rfl, Nat.le_of_ble_eq_true rfl, rfl⟩); conv => whnf)
    | ((with_reducible refine ex_step ?_); conv => whnf)
    | ((with_reducible refine both_T ?hx ?_); (case hx => first | exact rfl | assumption | exact notT (by assumption)); conv => whnf)
    | ((with_reducible refine both_F ?hx ?_); (case hx => first | exact rfl | assumption | exact notF (by assumption)); conv => whnf)
    | (revert hF; (with_reducible refine ite_step ?_ ?_) <;> (intro hc hF; conv => whnf))
    | (show retD _ _ _ _ _ _; conv => whnf)
    | ((refine ⟨?hx, trivial⟩); (case hx => (cases hF; exact rfl)))
    | ((refine ⟨?hx, ?_⟩); (case hx => decide); conv => whnf)
    | with_reducible refine k_seq ?_
    | (have hF : (none : Option _) = some _ := hF; cases hF))
end
end Go.Vc
namespace Go.Vc
open Go.Proofs
set_option linter.unusedVariables false
set_option linter.unnecessarySimpa false
set_option linter.unusedSimpArgs false
section
variable {c : Ctx} {p nid : Nat} {a b : Code} {st : St} {K : Ex → St → Prop}
/- f53: tusche/repeat.Wide$1 -/
def f53_3b (r3 : Int → (List Int) → Option ((List Int))) (s0 : Int) (s1 : Int) (s2 : Int) (s3 : Int) (s4 : Int) (s5 : List Int) (self : Int → Int → Int → Int → Int → (List Int) → Option ((List Int))) (v34 : Int) (b6 : List Int) : Option ((List Int)) :=
 bif decide (v34 < (List.length [s3, W (0 - s3), s4, W (0 - s4)] : Int)) then ((ix [s3, W (0 - s3), s4, W (0 - s4)] v34).bind fun x5 =>
 (self (W (s0 + x5)) s1 s2 s3 s4 b6).bind fun x6 =>
 (keepL b6 x6).bind fun x7 =>
 r3 (W (v34 + (1 : Int))) x7)
 else ((keepL s5 b6).bind fun x8 =>
 some (x8))
def f53_3 (s0 : Int) (s1 : Int) (s2 : Int) (s3 : Int) (s4 : Int) (s5 : List Int) (self : Int → Int → Int → Int → Int → (List Int) → Option ((List Int))) : Nat → Int → (List Int) → Option ((List Int))
  | 0, _, _ => none
  | n + 1, v34, b6 => f53_3b (f53_3 s0 s1 s2 s3 s4 s5 self n) s0 s1 s2 s3 s4 s5 self v34 b6
def Lf53_3 (s0 : Int) (s1 : Int) (s2 : Int) (s3 : Int) (s4 : Int) (s5 : List Int) (self : Int → Int → Int → Int → Int → (List Int) → Option ((List Int))) : Lp (Nat × Int × (List Int)) (Nat × Nat) ((List Int)) := ⟨⟨[0, 6, 32, 33, 34], [0, 1, 2, 3, 4, 5, 6, 1206], [], []⟩, fun (_, v34, _) => [.dat (iN s0), .ptr 5 0, .rs 1206 (List.length [s3, W (0 - s3), s4, W (0 - s4)]), .dat (iN (List.length [s3, W (0 - s3), s4, W (0 - s4)] : Int)), .dat (iN v34)], fun (_, _, b6) => [.box [.dat (iN s1)], .box [.rs 6 (List.length b6)], .box [.dat (u8N s2)], .box [.dat (iN s3)], .box [.dat (iN s4)], .box [.fn 53 [] [.ptr 0 0, .ptr 1 0, .ptr 2 0, .ptr 3 0, .ptr 4 0, .ptr 5 0]], .row 5 1 (List.map u8N b6), .row 3 1 (List.map iN [s3, W (0 - s3), s4, W (0 - s4)])], fun (n, v34, b6) => f53_3 s0 s1 s2 s3 s4 s5 self n v34 b6, fun (_, v34, _) (m0, _) => [.dat (iN s0), .ptr 5 0, .rs 1206 m0, .dat (iN (List.length [s3, W (0 - s3), s4, W (0 - s4)] : Int)), .dat (iN v34)], fun (_, _, b6) (_, m1) => [.box [.dat (iN s1)], .box [.rs 6 m1], .box [.dat (u8N s2)], .box [.dat (iN s3)], .box [.dat (iN s4)], .box [.fn 53 [] [.ptr 0 0, .ptr 1 0, .ptr 2 0, .ptr 3 0, .ptr 4 0, .ptr 5 0]], .row 5 1 (List.map u8N b6), .row 3 1 (List.map iN [s3, W (0 - s3), s4, W (0 - s4)])], fun (_, _, b6) => (List.length [s3, W (0 - s3), s4, W (0 - s4)], List.length b6), fun _ => rfl, fun _ => rfl⟩
theorem Ef53_3 {s0 s1 s2 s3 s4 s5 self n v34 b6} : (Lf53_3 s0 s1 s2 s3 s4 s5 self).E (n, v34, b6) = f53_3 s0 s1 s2 s3 s4 s5 self n v34 b6 := rfl
def f53b (self : Int → Int → Int → Int → Int → (List Int) → Option ((List Int))) (N : Nat) (s0 : Int) (s1 : Int) (s2 : Int) (s3 : Int) (s4 : Int) (s5 : List Int) : Option ((List Int)) :=
 (f52 N (0 : Int) s0 (W (s1 - (1 : Int)))).bind fun x1 =>
 bif !x1 then (some (s5))
 else ((ix s5 s0).bind fun x2 =>
 bif decide (¬ x2 = (0 : Int)) then (some (s5))
 else ((ix s5 s0).bind fun x3 =>
 (setx s5 s0 s2).bind fun x4 =>
 f53_3 s0 s1 s2 s3 s4 s5 self N (0 : Int) x4))
def f53 : Nat → Int → Int → Int → Int → Int → (List Int) → Option ((List Int))
  | 0, _, _, _, _, _, _ => none
  | N + 1, s0, s1, s2, s3, s4, s5 => f53b (f53 N) N s0 s1 s2 s3 s4 s5
def Af53 (s0 : Int) (s1 : Int) (s2 : Int) (s3 : Int) (s4 : Int) (s5 : List Int) : List SV := [.dat (iN s0), .ptr 0 0, .ptr 1 0, .ptr 2 0, .ptr 3 0, .ptr 4 0, .ptr 5 0]
def Bf53 (s0 : Int) (s1 : Int) (s2 : Int) (s3 : Int) (s4 : Int) (s5 : List Int) : List Blk := [.box [.dat (iN s1)], .box [.rs 6 (List.length s5)], .box [.dat (u8N s2)], .box [.dat (iN s3)], .box [.dat (iN s4)], .box [.fn 53 [] [.ptr 0 0, .ptr 1 0, .ptr 2 0, .ptr 3 0, .ptr 4 0, .ptr 5 0]], .row 5 1 (List.map u8N s5)]
def Rf53 (y : (List Int)) : List SV := []
def B1f53 (s0 : Int) (s1 : Int) (s2 : Int) (s3 : Int) (s4 : Int) (s5 : List Int) (y : (List Int)) : List Blk := [.box [.dat (iN s1)], .box [.rs 6 (List.length s5)], .box [.dat (u8N s2)], .box [.dat (iN s3)], .box [.dat (iN s4)], .box [.fn 53 [] [.ptr 0 0, .ptr 1 0, .ptr 2 0, .ptr 3 0, .ptr 4 0, .ptr 5 0]], .row 5 1 (List.map u8N y)]
def BZf53 (y : (List Int)) : Blk := .unborn
def Spf53 : Spec (Int × Int × Int × Int × Int × (List Int)) ((List Int)) := ⟨7, fun x => Af53 x.1 x.2.1 x.2.2.1 x.2.2.2.1 x.2.2.2.2.1 x.2.2.2.2.2, fun x => Bf53 x.1 x.2.1 x.2.2.1 x.2.2.2.1 x.2.2.2.2.1 x.2.2.2.2.2, fun _ y => Rf53 y, fun x y => B1f53 x.1 x.2.1 x.2.2.1 x.2.2.2.1 x.2.2.2.2.1 x.2.2.2.2.2 y, fun _ y => BZf53 y⟩
def H53 (N : Nat) (x : Int × Int × Int × Int × Int × (List Int)) (y : (List Int)) : Prop := f53 N x.1 x.2.1 x.2.2.1 x.2.2.2.1 x.2.2.2.2.1 x.2.2.2.2.2 = some y
def G53 (x : Int × Int × Int × Int × Int × (List Int)) (y : (List Int)) : Prop := ∃ N, H53 N x y
theorem H53.step {N : Nat} {s0 : Int} {s1 : Int} {s2 : Int} {s3 : Int} {s4 : Int} {s5 : List Int} {m0 : Nat} {ρ : Type} {A : (List Int) → Option ρ} {q : ρ} {xs : List SV} {id : Nat} {m : Nat → Blk} {l : List Loc} {K : Dl → List Loc → Prop} {k0 k1 k2 k3 k4 k5 k6 : Nat} (ha : xs = [.dat (iN s0), .ptr k0 0, .ptr k1 0, .ptr k2 0, .ptr k3 0, .ptr k4 0, .ptr k5 0]) (b0 : m k0 = .box [.dat (iN s1)]) (b1 : m k1 = .box [.rs k6 m0]) (b2 : m k2 = .box [.dat (u8N s2)]) (b3 : m k3 = .box [.dat (iN s3)]) (b4 : m k4 = .box [.dat (iN s4)]) (b5 : m k5 = .box [.fn 53 [] [.ptr k0 0, .ptr k1 0, .ptr k2 0, .ptr k3 0, .ptr k4 0, .ptr k5 0]]) (b6 : m k6 = .row 5 1 (List.map u8N s5)) (em0 : m0 = List.length s5) (hu : m id = .unborn) (hn : nodupB [k0, k1, k2, k3, k4, k5, k6] = true) (h : ∀ y, A y = some q → K ⟨.tup [], [(k0, .box [.dat (iN s1)]), (k1, .box [.rs k6 (List.length s5)]), (k2, .box [.dat (u8N s2)]), (k3, .box [.dat (iN s3)]), (k4, .box [.dat (iN s4)]), (k5, .box [.fn 53 [] [.ptr k0 0, .ptr k1 0, .ptr k2 0, .ptr k3 0, .ptr k4 0, .ptr k5 0]]), (k6, .row 5 1 (List.map u8N y)), (id, .unborn)]⟩ l) (hF : (f53 N s0 s1 s2 s3 s4 s5).bind A = some q) : effPg Spf53 (H53 N) xs id (fun _ => SV.no) m l K := by
  subst em0; obtain ⟨y, hy, hA⟩ := bind_some hF
  exact eff_step [k0, k1, k2, k3, k4, k5, k6] (s0, s1, s2, s3, s4, s5) y _ hy rfl hn ha (by simp only [List.map_cons, List.map_nil, b0, b1, b2, b3, b4, b5, b6]; rfl) hu rfl rfl (h y hA)
theorem G53.step {N : Nat} {s0 : Int} {s1 : Int} {s2 : Int} {s3 : Int} {s4 : Int} {s5 : List Int} {m0 : Nat} {ρ : Type} {A : (List Int) → Option ρ} {q : ρ} {xs : List SV} {id : Nat} {m : Nat → Blk} {l : List Loc} {K : Dl → List Loc → Prop} {k0 k1 k2 k3 k4 k5 k6 : Nat} (ha : xs = [.dat (iN s0), .ptr k0 0, .ptr k1 0, .ptr k2 0, .ptr k3 0, .ptr k4 0, .ptr k5 0]) (b0 : m k0 = .box [.dat (iN s1)]) (b1 : m k1 = .box [.rs k6 m0]) (b2 : m k2 = .box [.dat (u8N s2)]) (b3 : m k3 = .box [.dat (iN s3)]) (b4 : m k4 = .box [.dat (iN s4)]) (b5 : m k5 = .box [.fn 53 [] [.ptr k0 0, .ptr k1 0, .ptr k2 0, .ptr k3 0, .ptr k4 0, .ptr k5 0]]) (b6 : m k6 = .row 5 1 (List.map u8N s5)) (em0 : m0 = List.length s5) (hu : m id = .unborn) (hn : nodupB [k0, k1, k2, k3, k4, k5, k6] = true) (h : ∀ y, A y = some q → K ⟨.tup [], [(k0, .box [.dat (iN s1)]), (k1, .box [.rs k6 (List.length s5)]), (k2, .box [.dat (u8N s2)]), (k3, .box [.dat (iN s3)]), (k4, .box [.dat (iN s4)]), (k5, .box [.fn 53 [] [.ptr k0 0, .ptr k1 0, .ptr k2 0, .ptr k3 0, .ptr k4 0, .ptr k5 0]]), (k6, .row 5 1 (List.map u8N y)), (id, .unborn)]⟩ l) (hF : (f53 N s0 s1 s2 s3 s4 s5).bind A = some q) : effPg Spf53 (G53) xs id (fun _ => SV.no) m l K := by
  subst em0; obtain ⟨y, hy, hA⟩ := bind_some hF
  exact eff_step [k0, k1, k2, k3, k4, k5, k6] (s0, s1, s2, s3, s4, s5) y _ ⟨N, hy⟩ rfl hn ha (by simp only [List.map_cons, List.map_nil, b0, b1, b2, b3, b4, b5, b6]; rfl) hu rfl rfl (h y hA)
def Srf53 : Ann := ⟨[], [0, 1, 2, 3, 4, 5, 6, 500], [], []⟩
theorem lenf53 {s0 : Int} {s1 : Int} {s2 : Int} {s3 : Int} {s4 : Int} {s5 : List Int} {y : (List Int)} (hk : List.length s5 = List.length y) : ([.box [.dat (iN s1)], .box [.rs 6 (List.length y)], .box [.dat (u8N s2)], .box [.dat (iN s3)], .box [.dat (iN s4)], .box [.fn 53 [] [.ptr 0 0, .ptr 1 0, .ptr 2 0, .ptr 3 0, .ptr 4 0, .ptr 5 0]], .row 5 1 (List.map u8N y), .unborn] : List Blk) = Spf53.B1 (s0, s1, s2, s3, s4, s5) y ++ [Spf53.BZ (s0, s1, s2, s3, s4, s5) y] := by
  show (_ : List Blk) = [.box [.dat (iN s1)], .box [.rs 6 (List.length s5)], .box [.dat (u8N s2)], .box [.dat (iN s3)], .box [.dat (iN s4)], .box [.fn 53 [] [.ptr 0 0, .ptr 1 0, .ptr 2 0, .ptr 3 0, .ptr 4 0, .ptr 5 0]], .row 5 1 (List.map u8N y), .unborn]
  rw [hk]
set_option maxRecDepth 20000 in
set_option maxHeartbeats 4000000 in
theorem Q53 (N : Nat) : CallOK Try.prog 53 (effPg Spf53 (H53 N)) := by
  induction N with
  | zero => exact eff_none fun x y h => (by cases (show (none : Option ((List Int))) = some y from h))
  | succ N ih =>
    refine eff_of_vc (c := mkCtx tyTree [(53, false, effPg Spf53 (H53 N)), (52, true, lendPg [[0], [0], [0]] G52)]) rfl tyOK (ctx_eff (callable Try.func53 rfl rfl) ih (ctx_lend (callable Try.func52 rfl rfl) P52 (ctx_nil))) 1000 500 Srf53 Try.func53 rfl rfl (by kernel_rfl) rfl rfl rfl rfl rfl (fun _ => rfl) (fun _ => rfl) (fun _ _ => ⟨rfl, rfl⟩) ?_
    rintro ⟨s0, s1, s2, s3, s4, s5⟩ y hF
    have hF : f53b (f53 N) N s0 s1 s2 s3 s4 s5 = some y := hF
    show vc _ _ _ _ ⟨[(0, .dat (iN s0)), (1, .ptr 0 0), (2, .ptr 1 0), (3, .ptr 2 0), (4, .ptr 3 0), (5, .ptr 4 0), (6, .ptr 5 0)], [(0, .box [.dat (iN s1)]), (1, .box [.rs 6 (List.length s5)]), (2, .box [.dat (u8N s2)]), (3, .box [.dat (iN s3)]), (4, .box [.dat (iN s4)]), (5, .box [.fn 53 [] [.ptr 0 0, .ptr 1 0, .ptr 2 0, .ptr 3 0, .ptr 4 0, .ptr 5 0]]), (6, .row 5 1 (List.map u8N s5))]⟩ _
    unfold f53b at hF
    repeat' (first
      | ((with_reducible first | refine q0 _ _ ?_ | refine q1 _ _ _ _ ?_ | refine q2 _ _ _ ?_); clear Q q0 q1 q2)
      | ((with_reducible first | refine seq_op ?hx (fun Q q0 q1 q2 => ?_) | refine seq_op0 ?hx (fun Q q0 q1 q2 => ?_)); (case hx => exact rfl); conv => whnf)
      | ((with_reducible first | refine seq_off ?hx ?_ | refine seq_off0 ?hx ?_ | refine k_blk_out ?hx ?_ | refine vc_condT ?hx ?_); (case hx => exact rfl))
      | ((with_reducible refine seq_id ?_); (first | ((first | refine seq_opK rfl ?hy (fun Q q0 q1 q2 => ?_) | refine seq_opK0 rfl ?hy (fun Q q0 q1 q2 => ?_)); (case hy => first | assumption | exact notT (by assumption) | exact rfl); conv => whnf) | ((first | refine seq_offK rfl ?hy ?_ | refine seq_offK0 rfl ?hy ?_); (case hy => first | assumption | exact notF (by assumption) | exact rfl)) | (revert hF; (with_reducible first | refine seq_opF ?hx ?_ ?_ | refine seq_opF0 ?hx ?_ ?_); (case hx => exact rfl); (intro hc hF Q q0 q1 q2; conv => whnf); rotate_left; (intro hc hF); rotate_right) | (revert hF; (with_reducible first | refine seq_opN ?hx ?_ ?_ | refine seq_opN0 ?hx ?_ ?_); (case hx => exact rfl); (intro hc hF); rotate_left; (intro hc hF Q q0 q1 q2; conv => whnf); rotate_right)))
      | ((with_reducible refine cond_id ?_); (first | ((refine condKT rfl ?hy ?_); (case hy => first | assumption | exact notT (by assumption) | exact rfl)) | ((refine condKF rfl ?hy ?_); (case hy => first | assumption | exact notF (by assumption) | exact rfl)) | (revert hF; (with_reducible refine condF ?hx ?_ ?_); (case hx => exact rfl); all_goals (intro hc hF))))
      | ((with_reducible refine seq_nil ?_); (first | ((with_reducible refine hR _ ?_); clear R hR) | ((with_reducible refine hL _ ?_); clear L hL)))
      | ((with_reducible first | refine int_step ?_ | refine len_step ?_ | refine idx2 (by assumption) ?_ | refine idx3 (by assumption) ?_); conv => whnf)
      | (with_reducible first | refine vc_block ?_ | refine vc_skip ?_ | refine vc_ret ?_ | refine vc_exit ?_ | refine vc_region (fun R hR => ?_) | refine k_seq_ret ?_ | refine k_seq_exit ?_ | refine k_blk ?_ | refine k_blk_ret ?_ | refine k_blk_here ?_ | refine k_loop_ret ?_ | refine k_loop_exit ?_)
      | ((with_reducible refine vc_seqN [] ?hx ?_); (case hx => exact rfl))
      | (revert hF; (refine Lp.loop Ef53_3 (_, _) rfl ⟨_, rfl, rfl, rfl, rfl⟩ (pr2 (by first | exact rfl | ((try dsimp only [Lf53_3]); first | assumption | omega | (simp only [List.length_set]; done))) (by first | exact rfl | ((try dsimp only [Lf53_3]); first | assumption | omega | (simp only [List.length_set]; done)))) (fun _ => rfl) ?_); rintro n ⟨v34, b6⟩ hF; dsimp only [Lf53_3, f53_3] at hF; unfold f53_3b at hF)
      | exact Lp.back Ef53_3 hF (_, _) ⟨_, rfl, rfl, rfl, rfl⟩ (pr2 (by first | exact rfl | ((try dsimp only [Lf53_3]); first | assumption | omega | (simp only [List.length_set]; done))) (by first | exact rfl | ((try dsimp only [Lf53_3]); first | assumption | omega | (simp only [List.length_set]; done))))
      | (revert hF; (with_reducible refine G52.lend ?hx ?_); (case hx => exact rfl); intro v hF; conv => whnf)
      | (revert hF; (refine H53.step rfl rfl rfl rfl rfl rfl rfl rfl (by first | exact rfl | assumption | omega | (simp only [List.length_set]; done)) rfl ?hn ?_); (case hn => exact rfl); intro v hF; conv => whnf)
      | (show retE _ _ _ _ _ _; conv => whnf)
      | (cases hF; exact ⟨rfl, rfl, rfl⟩)
      | (cases hF; exact ⟨rfl, rfl, lenf53 hk⟩)
      | ((with_reducible have hG := keep_fact hF); have hk := hG.1; have hF := hG.2; clear hG)
      | (revert hF; (with_reducible refine idx1 ?hn ?_); (case hn => first | exact rfl | exact (List.length_map _) | assumption | omega | simp); intro x hx hF; conv => whnf)
      | ((refine row_all ?hn ?_); (case hn => first | exact rfl | (simp; done) | (simp; omega)); conv => whnf)
      | ((with_reducible refine le_step ?hn ?_); (case hn => first | exact rfl | assumption | omega); conv => whnf)
      | ((with_reducible have hG := setx_fact hF); clear hF; (refine setx_step hG ?hs (fun q hl hF => ?_)); (case hs => exact rfl); clear hG; conv => whnf)
      | ((refine ⟨?hx, ?_⟩); (case hx => exact ⟨rfl, Nat.le_of_ble_eq_true rfl, rfl⟩); conv => whnf)
      | ((with_reducible refine ex_step ?_); conv => whnf)
      | ((with_reducible refine both_T ?hx ?_); (case hx => first | exact rfl | assumption | exact notT (by assumption)); conv => whnf)
      | ((with_reducible refine both_F ?hx ?_); (case hx => first | exact rfl | assumption | exact notF (by assumption)); conv => whnf)
      | (revert hF; (with_reducible refine ite_step ?_ ?_) <;> (intro hc hF; conv => whnf))
      | ((with_reducible refine vc_condF ?hx ?_); (case hx => exact rfl))
      | (show retD _ _ _ _ _ _; conv => whnf)
      | ((refine ⟨?hx, trivial⟩); (case hx => (cases hF; exact rfl)))
      | ((refine ⟨?hx, ?_⟩); (case hx => decide); conv => whnf)
      | with_reducible refine k_seq ?_
      | (have hF : (none : Option _) = some _ := hF; cases hF))
theorem P53 : CallOK Try.prog 53 (effPg Spf53 G53) := eff_ex Q53
end
end Go.Vc

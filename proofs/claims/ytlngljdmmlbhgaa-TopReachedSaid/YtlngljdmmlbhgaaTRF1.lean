/-
  A library for proofs about Go functions by symbolic evaluation, and plain Lean functions that the walked Go functions compute (written by a program of this claim).
-/
import Derived.Test.YtlngljdmmlbhgaaVc3
import Derived.Test.YtlngljdmmlbhgaaProg
namespace Go.Vc
open Go.Proofs
set_option maxRecDepth 20000
def tyTree : Tree (Option TI) :=
  (.node (.node (.node (.node (.node (.node (.node .leaf (some ⟨.fn, 1, 8, false, [0], [.nilFunc], []⟩) .leaf) none (.node .leaf (some ⟨.fn, 1, 8, false, [0], [.nilFunc], []⟩) .leaf)) (some ⟨.ptr, 1, 8, false, [0], [.pointer none], []⟩) (.node (.node .leaf (some ⟨.fn, 1, 8, false, [0], [.nilFunc], []⟩) .leaf) (some ⟨.fn, 1, 8, false, [0], [.nilFunc], []⟩) (.node .leaf none .leaf))) none (.node (.node (.node .leaf (some ⟨.fn, 1, 8, false, [0], [.nilFunc], []⟩) .leaf) (some ⟨.fn, 1, 8, false, [0], [.nilFunc], []⟩) (.node .leaf none .leaf)) (some ⟨.ptr, 1, 8, false, [0], [.pointer none], []⟩) (.node (.node .leaf (some ⟨.fn, 1, 8, false, [0], [.nilFunc], []⟩) .leaf) (some ⟨.fn, 1, 8, false, [0], [.nilFunc], []⟩) (.node .leaf (some ⟨.fn, 1, 8, false, [0], [.nilFunc], []⟩) .leaf)))) (some ⟨(.int .i64), 1, 8, false, [0], [.int .i64 0], []⟩) (.node (.node (.node (.node .leaf (some ⟨.fn, 1, 8, false, [0], [.nilFunc], []⟩) .leaf) none (.node .leaf (some ⟨.fn, 1, 8, false, [0], [.nilFunc], []⟩) .leaf)) (some ⟨.ptr, 1, 8, false, [0], [.pointer none], []⟩) (.node (.node .leaf (some ⟨(.slice 91 1 false), 1, 24, false, [1], [.slice none 0 0], []⟩) .leaf) (some ⟨.fn, 1, 8, false, [0], [.nilFunc], []⟩) (.node .leaf (some ⟨(.struct [(0, 3, true), (3, 1, false)]), 4, 64, true, [0, 0, 3, 1], [.int .i64 0, .int .i64 0, .slice none 0 0, .slice none 0 0], []⟩) .leaf))) none (.node (.node (.node .leaf (some ⟨(.struct [(0, 3, true), (3, 1, false)]), 4, 64, true, [0, 0, 3, 1], [.int .i64 0, .int .i64 0, .slice none 0 0, .slice none 0 0], [("tusche/rack.all", 54)]⟩) .leaf) (some ⟨.fn, 1, 8, false, [0], [.nilFunc], []⟩) (.node .leaf (some ⟨.fn, 1, 8, false, [0], [.nilFunc], []⟩) .leaf)) none (.node (.node .leaf (some ⟨.fn, 1, 8, false, [0], [.nilFunc], []⟩) .leaf) (some ⟨.fn, 1, 8, false, [0], [.nilFunc], []⟩) (.node .leaf (some ⟨.fn, 1, 8, false, [0], [.nilFunc], []⟩) .leaf))))) (some ⟨.fn, 1, 8, false, [0], [.nilFunc], []⟩) (.node (.node (.node (.node (.node .leaf (some ⟨.fn, 1, 8, false, [0], [.nilFunc], []⟩) .leaf) (some ⟨.fn, 1, 8, false, [0], [.nilFunc], []⟩) (.node .leaf (some ⟨.fn, 1, 8, false, [0], [.nilFunc], []⟩) .leaf)) none (.node (.node .leaf (some ⟨(.int .i64), 1, 8, false, [0], [.int .i64 0], [("tusche/ink.over", 48)]⟩) .leaf) (some ⟨(.slice 46 6 true), 1, 24, false, [6], [.slice none 0 0], []⟩) (.node .leaf (some ⟨(.slice 3 1 false), 1, 24, false, [1], [.slice none 0 0], [("tusche/ink.over", 80)]⟩) .leaf))) (some ⟨.str, 1, 16, false, [0], [.string ⟨#[]⟩], []⟩) (.node (.node (.node .leaf (some ⟨.fn, 1, 8, false, [0], [.nilFunc], []⟩) .leaf) (some ⟨(.slice 45 3 true), 1, 24, false, [3], [.slice none 0 0], []⟩) (.node .leaf (some ⟨.fn, 1, 8, false, [0], [.nilFunc], []⟩) .leaf)) (some ⟨.iface, 1, 16, false, [0], [.nilIface], []⟩) (.node (.node .leaf (some ⟨.fn, 1, 8, false, [0], [.nilFunc], []⟩) .leaf) (some ⟨(.struct [(0, 1, false), (1, 1, false), (2, 1, false)]), 3, 40, true, [0, 0, 3], [.int .i64 0, .int .i64 0, .slice none 0 0], []⟩) (.node .leaf (some ⟨(.mp 62 4), 1, 8, false, [0], [.map none], []⟩) .leaf)))) (some ⟨.bool, 1, 1, false, [0], [.bool false], []⟩) (.node (.node (.node (.node .leaf (some ⟨(.slice 62 1 false), 1, 24, false, [1], [.slice none 0 0], []⟩) .leaf) (some ⟨(.struct [(0, 1, false), (1, 1, false), (2, 1, false)]), 3, 40, true, [0, 0, 3], [.int .i64 0, .int .i64 0, .slice none 0 0], [("tusche/rack.frame", 33), ("tusche/rack.rods", 79)]⟩) (.node .leaf (some ⟨.fn, 1, 8, false, [0], [.nilFunc], []⟩) .leaf)) (some ⟨(.int .i32), 1, 4, false, [0], [.int .i32 0], []⟩) (.node (.node .leaf none .leaf) (some ⟨(.struct [(0, 1, false), (1, 1, false), (2, 1, false)]), 3, 24, true, [0, 0, 0], [.int .i64 0, .int .i64 0, .int .i64 0], []⟩) (.node .leaf (some ⟨.fn, 1, 8, false, [0], [.nilFunc], []⟩) .leaf))) none (.node (.node (.node .leaf (some ⟨(.int .u16), 1, 2, false, [0], [.int .u16 0], [("tusche/rack.has", 62)]⟩) .leaf) (some ⟨(.struct [(0, 1, false), (1, 1, false), (2, 1, false)]), 3, 24, true, [0, 0, 0], [.int .i64 0, .int .i64 0, .int .i64 0], []⟩) (.node .leaf (some ⟨.fn, 1, 8, false, [0], [.nilFunc], []⟩) .leaf)) (some ⟨(.slice 5 1 false), 1, 24, false, [1], [.slice none 0 0], []⟩) (.node (.node .leaf (some ⟨.fn, 1, 8, false, [0], [.nilFunc], []⟩) .leaf) (some ⟨(.arr 6 1 false), 6, 6, true, [0, 0, 0, 0, 0, 0], [.int .u8 0, .int .u8 0, .int .u8 0, .int .u8 0, .int .u8 0, .int .u8 0], []⟩) (.node .leaf (some ⟨.fn, 1, 8, false, [0], [.nilFunc], []⟩) .leaf)))))) none (.node (.node (.node (.node (.node (.node .leaf (some ⟨.fn, 1, 8, false, [0], [.nilFunc], []⟩) .leaf) (some ⟨.fn, 1, 8, false, [0], [.nilFunc], []⟩) (.node .leaf (some ⟨.fn, 1, 8, false, [0], [.nilFunc], []⟩) .leaf)) (some ⟨(.int .u16), 1, 2, false, [0], [.int .u16 0], []⟩) (.node (.node .leaf (some ⟨.fn, 1, 8, false, [0], [.nilFunc], []⟩) .leaf) none (.node .leaf (some ⟨.fn, 1, 8, false, [0], [.nilFunc], []⟩) .leaf))) none (.node (.node (.node .leaf (some ⟨.fn, 1, 8, false, [0], [.nilFunc], []⟩) .leaf) (some ⟨.fn, 1, 8, false, [0], [.nilFunc], []⟩) (.node .leaf (some ⟨(.arr 10 1 false), 10, 10, true, [0, 0, 0, 0, 0, 0, 0, 0, 0, 0], [.bool false, .bool false, .bool false, .bool false, .bool false, .bool false, .bool false, .bool false, .bool false, .bool false], []⟩) .leaf)) (some ⟨(.slice 28 1 false), 1, 24, false, [1], [.slice none 0 0], []⟩) (.node (.node .leaf (some ⟨.fn, 1, 8, false, [0], [.nilFunc], []⟩) .leaf) (some ⟨(.struct [(0, 1, false), (1, 1, false)]), 2, 48, true, [1, 1], [.slice none 0 0, .slice none 0 0], []⟩) (.node .leaf none .leaf)))) (some ⟨(.int .u8), 1, 1, false, [0], [.int .u8 0], []⟩) (.node (.node (.node (.node .leaf none .leaf) (some ⟨(.struct [(0, 1, false), (1, 1, false)]), 2, 48, true, [1, 1], [.slice none 0 0, .slice none 0 0], []⟩) (.node .leaf (some ⟨(.arr 0 1 false), 0, 0, true, [], [], []⟩) .leaf)) (some ⟨.fn, 1, 8, false, [0], [.nilFunc], []⟩) (.node (.node .leaf none .leaf) (some ⟨.fn, 1, 8, false, [0], [.nilFunc], []⟩) (.node .leaf none .leaf))) (some ⟨(.int .u64), 1, 8, false, [0], [.int .u64 0], []⟩) (.node (.node (.node .leaf (some ⟨.fn, 1, 8, false, [0], [.nilFunc], []⟩) .leaf) (some ⟨.fn, 1, 8, false, [0], [.nilFunc], []⟩) (.node .leaf (some ⟨(.int .u32), 1, 4, false, [0], [.int .u32 0], []⟩) .leaf)) (some ⟨(.struct [(0, 1, false), (1, 1, false)]), 2, 32, true, [0, 1], [.int .i64 0, .slice none 0 0], []⟩) (.node (.node .leaf none .leaf) (some ⟨.fn, 1, 8, false, [0], [.nilFunc], []⟩) (.node .leaf none .leaf))))) (some ⟨(.int .i64), 1, 8, false, [0], [.int .i64 0], []⟩) (.node (.node (.node (.node (.node .leaf (some ⟨.fn, 1, 8, false, [0], [.nilFunc], []⟩) .leaf) (some ⟨.fn, 1, 8, false, [0], [.nilFunc], []⟩) (.node .leaf (some ⟨.ptr, 1, 8, false, [0], [.pointer none], []⟩) .leaf)) (some ⟨(.struct [(0, 1, false), (1, 1, false)]), 2, 32, true, [0, 1], [.int .i64 0, .slice none 0 0], [("tusche/ink.fewest", 28), ("tusche/ink.ink", 19), ("tusche/ink.inks", 18), ("tusche/ink.sketch", 52)]⟩) (.node (.node .leaf none .leaf) (some ⟨.iface, 1, 16, false, [0], [.nilIface], []⟩) (.node .leaf none .leaf))) none (.node (.node (.node .leaf (some ⟨(.struct [(0, 1, false), (1, 1, false), (2, 1, false), (3, 1, false), (4, 1, false), (5, 1, false), (6, 1, false), (7, 1, false), (8, 1, false), (9, 1, false), (10, 1, false)]), 11, 48, true, [0, 0, 0, 0, 0, 0, 0, 0, 0, 0, 0], [.int .u64 0, .int .u64 0, .int .u32 0, .int .u8 0, .int .u8 0, .int .u8 0, .int .u8 0, .nilFunc, .pointer none, .int .i32 0, .int .i32 0], []⟩) .leaf) (some ⟨.iface, 1, 16, false, [0], [.nilIface], []⟩) (.node .leaf none .leaf)) (some ⟨(.slice 3 1 false), 1, 24, false, [1], [.slice none 0 0], []⟩) (.node (.node .leaf (some ⟨.fn, 1, 8, false, [0], [.nilFunc], []⟩) .leaf) (some ⟨.fn, 1, 8, false, [0], [.nilFunc], []⟩) (.node .leaf none .leaf)))) none (.node (.node (.node .leaf (some ⟨.fn, 1, 8, false, [0], [.nilFunc], []⟩) .leaf) (some ⟨(.slice 4 1 false), 1, 24, false, [1], [.slice none 0 0], []⟩) (.node .leaf (some ⟨.fn, 1, 8, false, [0], [.nilFunc], []⟩) .leaf)) none (.node (.node .leaf (some ⟨.fn, 1, 8, false, [0], [.nilFunc], []⟩) .leaf) (some ⟨(.int .i64), 1, 8, false, [0], [.int .i64 0], []⟩) (.node .leaf (some ⟨(.int .u8), 1, 1, false, [0], [.int .u8 0], [("tusche/ink.has", 49), ("tusche/ink.list", 26), ("tusche/ink.print", 25)]⟩) .leaf))))))
theorem tyOK : TyOK Try.prog tyTree := ty_ok (by kernel_rfl)
end Go.Vc
namespace Go.Vc
open Go.Proofs
set_option linter.unusedVariables false
set_option linter.unnecessarySimpa false
set_option linter.unusedSimpArgs false
def sl_iN (l : List Int) : D := .sl 1 (l.map iN)
def sl_sl_iN (l : List (List Int)) : D := .sl 1 (l.map sl_iN)
structure Palette where
  Colours : Int
  Inks : List (List Int)
  deriving DecidableEq, Inhabited
def Palette.d (x : Palette) : D := .agg [iN x.Colours, sl_sl_iN x.Inks]
structure A6u8N where
  e0 : Int
  e1 : Int
  e2 : Int
  e3 : Int
  e4 : Int
  e5 : Int
  deriving DecidableEq, Inhabited
def A6u8N.d (x : A6u8N) : D := .agg [u8N x.e0, u8N x.e1, u8N x.e2, u8N x.e3, u8N x.e4, u8N x.e5]
structure Brace where
  Row : Int
  Column : Int
  Kind : Int
  deriving DecidableEq, Inhabited
def Brace.d (x : Brace) : D := .agg [iN x.Row, iN x.Column, iN x.Kind]
def sl_Brace (l : List Brace) : D := .sl 3 (l.map Brace.d)
structure Rack where
  Rows : Int
  Columns : Int
  Braces : List Brace
  deriving DecidableEq, Inhabited
def Rack.d (x : Rack) : D := .agg [iN x.Rows, iN x.Columns, sl_Brace x.Braces]
structure Motion where
  Rows : List Int
  Columns : List Int
  deriving DecidableEq, Inhabited
def Motion.d (x : Motion) : D := .agg [sl_iN x.Rows, sl_iN x.Columns]
def sl_u16N (l : List Int) : D := .sl 1 (l.map u16N)
structure Frame where
  Rack_ : Rack
  arrows : List Int
  deriving DecidableEq, Inhabited
def Frame.d (x : Frame) : D := .agg [iN x.Rack_.Rows, iN x.Rack_.Columns, sl_Brace x.Rack_.Braces, sl_u16N x.arrows]
def sl_A6u8N (l : List A6u8N) : D := .sl 6 (l.map A6u8N.d)
inductive I56 where
  | nil
  | c81 (x : Int)
  | c82 (x : List Int)
  deriving DecidableEq, Inhabited
def I56.d : I56 → D
  | .nil => .v .nilIface
  | .c81 x => .ifc 81 (iN x)
  | .c82 x => .ifc 82 (sl_iN x)
end Go.Vc
namespace Go.Vc
open Go.Proofs
set_option linter.unusedVariables false
set_option linter.unnecessarySimpa false
set_option linter.unusedSimpArgs false
section
variable {c : Ctx} {p nid : Nat} {a b : Code} {st : St} {K : Ex → St → Prop}
def f39_c8 (m3 : Int) : Option (Int) :=
 some (m3)
def Lf39_c8 : Lp (Int) Unit (Int) := lp0 ⟨[3], [], [], []⟩ (fun m3 => [.dat (iN m3)]) (fun _ => []) (fun m3 => f39_c8 m3)
theorem Ef39_c8 {m3} : (Lf39_c8).E m3 = f39_c8 m3 := rfl
def f39_5b (r5 : Int → Int → Option (Int)) (a0 : List Int) (k0 : Int → Option (Int)) (m3 : Int) (i4 : Int) : Option (Int) :=
 bif decide (i4 < (List.length a0 : Int)) then ((ix a0 i4).bind fun x2 =>
 r5 (max m3 x2) (W (i4 + (1 : Int))))
 else (k0 m3)
def f39_5 (a0 : List Int) (k0 : Int → Option (Int)) : Nat → Int → Int → Option (Int)
  | 0, _, _ => none
  | n + 1, m3, i4 => f39_5b (f39_5 a0 k0 n) a0 k0 m3 i4
def Lf39_5 (a0 : List Int) (k0 : Int → Option (Int)) : Lp (Nat × Int × Int) Unit (Int) := lp0 ⟨[0, 3, 4], [], [], []⟩ (fun (_, m3, i4) => [.dat (sl_iN a0), .dat (iN m3), .dat (iN i4)]) (fun (_, _, _) => []) (fun (n, m3, i4) => f39_5 a0 k0 n m3 i4)
theorem Ef39_5 {a0 k0 n m3 i4} : (Lf39_5 a0 k0).E (n, m3, i4) = f39_5 a0 k0 n m3 i4 := rfl
def f39 (N : Nat) (a0 : List Int) : Option (Int) :=
 bif decide ((List.length a0 : Int) < (1 : Int)) then none
 else ((ix a0 (0 : Int)).bind fun x1 =>
 joinK f39_c8 fun k0 =>
 f39_5 a0 k0 N x1 (1 : Int))
def G39 (ds : List D) (d : D) : Prop := ∃ (N : Nat) (a0 : List Int) (r : Int), ds = [sl_iN a0] ∧ f39 N a0 = some r ∧ d = iN r
theorem G39.lend {N : Nat} {a0 : List Int} {ρ : Type} {A : Int → Option ρ} {q : ρ} {ds : List D} {K : D → Prop} (hd : ds = [sl_iN a0]) (h : ∀ r, A r = some q → K (iN r)) (hF : (f39 N a0).bind A = some q) : ∃ d, (G39 ds d ∧ d.flatB = true) ∧ K d := by
  obtain ⟨r, hr, hA⟩ := bind_some hF
  exact ⟨_, ⟨⟨N, a0, r, hd, hr, rfl⟩, rfl⟩, h r hA⟩
set_option maxRecDepth 20000 in
set_option maxHeartbeats 4000000 in
theorem P39 : PureOK Try.prog 39 G39 := by
  refine pure_of_vc (c := mkCtx tyTree []) rfl tyOK (ctx_nil) [[0]] 1 Try.func39 rfl rfl (by decide) (by kernel_rfl) ?_
  rintro ds d ⟨N, a0, r, rfl, hF, rfl⟩ hok
  clear hok
  refine ⟨rfl, ?_⟩
  show vc _ _ _ _ ⟨[(0, .dat (sl_iN a0))], []⟩ _
  unfold f39 at hF
  repeat' (first
    | ((with_reducible first | refine q0 _ _ ?_ | refine q1 _ _ _ _ ?_ | refine q2 _ _ _ ?_); clear Q q0 q1 q2)
    | ((with_reducible first | refine seq_op ?hx (fun Q q0 q1 q2 => ?_) | refine seq_op0 ?hx (fun Q q0 q1 q2 => ?_)); (case hx => exact rfl); conv => whnf)
    | ((with_reducible refine cond_id ?_); (first | ((refine condKT rfl ?hy ?_); (case hy => first | assumption | exact notT (by assumption) | exact rfl)) | ((refine condKF rfl ?hy ?_); (case hy => first | assumption | exact notF (by assumption) | exact rfl)) | (revert hF; (with_reducible refine condF ?hx ?_ ?_); (case hx => exact rfl); all_goals (intro hc hF))))
    | ((with_reducible refine seq_nil ?_); (first | ((with_reducible refine hR _ ?_); clear R hR) | ((with_reducible refine hL _ ?_); clear L hL)))
    | ((with_reducible first | refine int_step ?_ | refine len_step ?_ | refine idx2 (by assumption) ?_ | refine idx3 (by assumption) ?_); conv => whnf)
    | (with_reducible first | refine vc_block ?_ | refine vc_skip ?_ | refine vc_ret ?_ | refine vc_exit ?_ | refine vc_region (fun R hR => ?_) | refine k_seq_ret ?_ | refine k_seq_exit ?_ | refine k_blk ?_ | refine k_blk_ret ?_ | refine k_blk_here ?_ | refine k_loop_ret ?_ | refine k_loop_exit ?_)
    | ((with_reducible refine vc_seqN [8] ?hx ?_); (case hx => exact rfl))
    | ((with_reducible refine seq_id' ?_); (with_reducible replace hF := chkJ (f := f39_c8) hF); revert hF; (refine Lp.cut0 Lf39_c8 f39_c8 8 rfl rfl ?_ ?_); (intro hF); rotate_left; (rintro m3 hF; dsimp only [Lf39_c8] at hF; unfold f39_c8 at hF); rotate_right)
    | ((with_reducible refine head_id ?_); (with_reducible replace hF := chkE (e := f39_c8 ..) hF); exact Lp.head Ef39_c8 hF () ⟨_, rfl, rfl, rfl, rfl⟩ rfl)
    | ((with_reducible refine loop_id ?_); (with_reducible replace hF := chkE (e := f39_5 ..) hF); revert hF; (refine Lp.loop Ef39_5 () rfl ⟨_, rfl, rfl, rfl, rfl⟩ rfl (fun _ => rfl) ?_); rintro n ⟨m3, i4⟩ hF; dsimp only [Lf39_5, f39_5] at hF; unfold f39_5b at hF)
    | ((with_reducible refine back_id ?_); (with_reducible replace hF := chkE (e := f39_5 ..) hF); exact Lp.back Ef39_5 hF () ⟨_, rfl, rfl, rfl, rfl⟩ rfl)
    | ((with_reducible first | refine k_blk_out ?hx ?_ | refine vc_condT ?hx ?_); (case hx => exact rfl))
    | (revert hF; (with_reducible refine idx1 ?hn ?_); (case hn => first | exact rfl | exact (List.length_map _) | assumption | omega | simp); intro x hx hF; conv => whnf)
    | ((refine row_all ?hn ?_); (case hn => first | exact rfl | (simp; done) | (simp; omega)); conv => whnf)
    | ((with_reducible refine le_step ?hn ?_); (case hn => first | exact rfl | assumption | omega); conv => whnf)
    | ((refine ⟨?hx, ?_⟩); (case hx => exact ⟨rfl, Nat.le_of_ble_eq_true rfl, rfl⟩); conv => whnf)
    | ((with_reducible refine ex_step ?_); conv => whnf)
    | ((with_reducible refine both_T ?hx ?_); (case hx => first | exact rfl | assumption | exact notT (by assumption)); conv => whnf)
    | ((with_reducible refine both_F ?hx ?_); (case hx => first | exact rfl | assumption | exact notF (by assumption)); conv => whnf)
    | (revert hF; (with_reducible refine ite_step ?_ ?_) <;> (intro hc hF; conv => whnf))
    | ((with_reducible refine vc_condF ?hx ?_); (case hx => exact rfl))
    | (show retD _ _ _ _ _ _; conv => whnf)
    | ((refine ⟨?hx, trivial⟩); (case hx => (cases hF; exact rfl)))
    | ((refine ⟨?hx, ?_⟩); (case hx => decide); conv => whnf)
    | with_reducible refine k_seq ?_
    | (have hF : (none : Option _) = some _ := hF; cases hF))
end
end Go.Vc
namespace Go.Vc
open Go.Proofs
set_option linter.unusedVariables false
set_option linter.unnecessarySimpa false
set_option linter.unusedSimpArgs false
section
variable {c : Ctx} {p nid : Nat} {a b : Code} {st : St} {K : Ex → St → Prop}
def f40_c8 (m3 : Int) : Option (Int) :=
 some (m3)
def Lf40_c8 : Lp (Int) Unit (Int) := lp0 ⟨[3], [], [], []⟩ (fun m3 => [.dat (iN m3)]) (fun _ => []) (fun m3 => f40_c8 m3)
theorem Ef40_c8 {m3} : (Lf40_c8).E m3 = f40_c8 m3 := rfl
def f40_5b (r5 : Int → Int → Option (Int)) (a0 : List Int) (k0 : Int → Option (Int)) (m3 : Int) (i4 : Int) : Option (Int) :=
 bif decide (i4 < (List.length a0 : Int)) then ((ix a0 i4).bind fun x2 =>
 r5 (min m3 x2) (W (i4 + (1 : Int))))
 else (k0 m3)
def f40_5 (a0 : List Int) (k0 : Int → Option (Int)) : Nat → Int → Int → Option (Int)
  | 0, _, _ => none
  | n + 1, m3, i4 => f40_5b (f40_5 a0 k0 n) a0 k0 m3 i4
def Lf40_5 (a0 : List Int) (k0 : Int → Option (Int)) : Lp (Nat × Int × Int) Unit (Int) := lp0 ⟨[0, 3, 4], [], [], []⟩ (fun (_, m3, i4) => [.dat (sl_iN a0), .dat (iN m3), .dat (iN i4)]) (fun (_, _, _) => []) (fun (n, m3, i4) => f40_5 a0 k0 n m3 i4)
theorem Ef40_5 {a0 k0 n m3 i4} : (Lf40_5 a0 k0).E (n, m3, i4) = f40_5 a0 k0 n m3 i4 := rfl
def f40 (N : Nat) (a0 : List Int) : Option (Int) :=
 bif decide ((List.length a0 : Int) < (1 : Int)) then none
 else ((ix a0 (0 : Int)).bind fun x1 =>
 joinK f40_c8 fun k0 =>
 f40_5 a0 k0 N x1 (1 : Int))
def G40 (ds : List D) (d : D) : Prop := ∃ (N : Nat) (a0 : List Int) (r : Int), ds = [sl_iN a0] ∧ f40 N a0 = some r ∧ d = iN r
theorem G40.lend {N : Nat} {a0 : List Int} {ρ : Type} {A : Int → Option ρ} {q : ρ} {ds : List D} {K : D → Prop} (hd : ds = [sl_iN a0]) (h : ∀ r, A r = some q → K (iN r)) (hF : (f40 N a0).bind A = some q) : ∃ d, (G40 ds d ∧ d.flatB = true) ∧ K d := by
  obtain ⟨r, hr, hA⟩ := bind_some hF
  exact ⟨_, ⟨⟨N, a0, r, hd, hr, rfl⟩, rfl⟩, h r hA⟩
set_option maxRecDepth 20000 in
set_option maxHeartbeats 4000000 in
theorem P40 : PureOK Try.prog 40 G40 := by
  refine pure_of_vc (c := mkCtx tyTree []) rfl tyOK (ctx_nil) [[0]] 1 Try.func40 rfl rfl (by decide) (by kernel_rfl) ?_
  rintro ds d ⟨N, a0, r, rfl, hF, rfl⟩ hok
  clear hok
  refine ⟨rfl, ?_⟩
  show vc _ _ _ _ ⟨[(0, .dat (sl_iN a0))], []⟩ _
  unfold f40 at hF
  repeat' (first
    | ((with_reducible first | refine q0 _ _ ?_ | refine q1 _ _ _ _ ?_ | refine q2 _ _ _ ?_); clear Q q0 q1 q2)
    | ((with_reducible first | refine seq_op ?hx (fun Q q0 q1 q2 => ?_) | refine seq_op0 ?hx (fun Q q0 q1 q2 => ?_)); (case hx => exact rfl); conv => whnf)
    | ((with_reducible refine cond_id ?_); (first | ((refine condKT rfl ?hy ?_); (case hy => first | assumption | exact notT (by assumption) | exact rfl)) | ((refine condKF rfl ?hy ?_); (case hy => first | assumption | exact notF (by assumption) | exact rfl)) | (revert hF; (with_reducible refine condF ?hx ?_ ?_); (case hx => exact rfl); all_goals (intro hc hF))))
    | ((with_reducible refine seq_nil ?_); (first | ((with_reducible refine hR _ ?_); clear R hR) | ((with_reducible refine hL _ ?_); clear L hL)))
    | ((with_reducible first | refine int_step ?_ | refine len_step ?_ | refine idx2 (by assumption) ?_ | refine idx3 (by assumption) ?_); conv => whnf)
    | (with_reducible first | refine vc_block ?_ | refine vc_skip ?_ | refine vc_ret ?_ | refine vc_exit ?_ | refine vc_region (fun R hR => ?_) | refine k_seq_ret ?_ | refine k_seq_exit ?_ | refine k_blk ?_ | refine k_blk_ret ?_ | refine k_blk_here ?_ | refine k_loop_ret ?_ | refine k_loop_exit ?_)
    | ((with_reducible refine vc_seqN [8] ?hx ?_); (case hx => exact rfl))
    | ((with_reducible refine seq_id' ?_); (with_reducible replace hF := chkJ (f := f40_c8) hF); revert hF; (refine Lp.cut0 Lf40_c8 f40_c8 8 rfl rfl ?_ ?_); (intro hF); rotate_left; (rintro m3 hF; dsimp only [Lf40_c8] at hF; unfold f40_c8 at hF); rotate_right)
    | ((with_reducible refine head_id ?_); (with_reducible replace hF := chkE (e := f40_c8 ..) hF); exact Lp.head Ef40_c8 hF () ⟨_, rfl, rfl, rfl, rfl⟩ rfl)
    | ((with_reducible refine loop_id ?_); (with_reducible replace hF := chkE (e := f40_5 ..) hF); revert hF; (refine Lp.loop Ef40_5 () rfl ⟨_, rfl, rfl, rfl, rfl⟩ rfl (fun _ => rfl) ?_); rintro n ⟨m3, i4⟩ hF; dsimp only [Lf40_5, f40_5] at hF; unfold f40_5b at hF)
    | ((with_reducible refine back_id ?_); (with_reducible replace hF := chkE (e := f40_5 ..) hF); exact Lp.back Ef40_5 hF () ⟨_, rfl, rfl, rfl, rfl⟩ rfl)
    | ((with_reducible first | refine k_blk_out ?hx ?_ | refine vc_condT ?hx ?_); (case hx => exact rfl))
    | (revert hF; (with_reducible refine idx1 ?hn ?_); (case hn => first | exact rfl | exact (List.length_map _) | assumption | omega | simp); intro x hx hF; conv => whnf)
    | ((refine row_all ?hn ?_); (case hn => first | exact rfl | (simp; done) | (simp; omega)); conv => whnf)
    | ((with_reducible refine le_step ?hn ?_); (case hn => first | exact rfl | assumption | omega); conv => whnf)
    | ((refine ⟨?hx, ?_⟩); (case hx => exact ⟨rfl, Nat.le_of_ble_eq_true rfl, rfl⟩); conv => whnf)
    | ((with_reducible refine ex_step ?_); conv => whnf)
    | ((with_reducible refine both_T ?hx ?_); (case hx => first | exact rfl | assumption | exact notT (by assumption)); conv => whnf)
    | ((with_reducible refine both_F ?hx ?_); (case hx => first | exact rfl | assumption | exact notF (by assumption)); conv => whnf)
    | (revert hF; (with_reducible refine ite_step ?_ ?_) <;> (intro hc hF; conv => whnf))
    | ((with_reducible refine vc_condF ?hx ?_); (case hx => exact rfl))
    | (show retD _ _ _ _ _ _; conv => whnf)
    | ((refine ⟨?hx, trivial⟩); (case hx => (cases hF; exact rfl)))
    | ((refine ⟨?hx, ?_⟩); (case hx => decide); conv => whnf)
    | with_reducible refine k_seq ?_
    | (have hF : (none : Option _) = some _ := hF; cases hF))
end
end Go.Vc
namespace Go.Vc
open Go.Proofs
set_option linter.unusedVariables false
set_option linter.unnecessarySimpa false
set_option linter.unusedSimpArgs false
section
variable {c : Ctx} {p nid : Nat} {a b : Code} {st : St} {K : Ex → St → Prop}
def f19 (N : Nat) (a0 : Palette) (a1 : Int) : Option (I56) :=
 (ix a0.Inks a1).bind fun x1 =>
 (f39 N x1).bind fun x2 =>
 (f40 N x1).bind fun x3 =>
 bif decide (x2 = x3) then ((ix x1 (0 : Int)).bind fun x4 =>
 some ((I56.c81 x4)))
 else (some ((I56.c82 x1)))
def G19 (ds : List D) (d : D) : Prop := ∃ (N : Nat) (a0 : Palette) (a1 : Int) (r : I56), ds = [Palette.d a0, iN a1] ∧ f19 N a0 a1 = some r ∧ d = I56.d r
theorem G19.step {N : Nat} {a0 : Palette} {a1 : Int} {ρ : Type} {A : I56 → Option ρ} {q : ρ} {ds : List D} {K : D → Prop} (hd : ds = [Palette.d a0, iN a1]) (h : ∀ r, A r = some q → K (I56.d r)) (hF : (f19 N a0 a1).bind A = some q) : ∃ d, G19 ds d ∧ K d := by
  obtain ⟨r, hr, hA⟩ := bind_some hF
  exact ⟨_, ⟨N, a0, a1, r, hd, hr, rfl⟩, h r hA⟩
set_option maxRecDepth 20000 in
set_option maxHeartbeats 4000000 in
theorem P19 : PureOK Try.prog 19 G19 := by
  refine pure_of_vc (c := mkCtx tyTree [(40, true, lendPg [[1]] G40), (39, true, lendPg [[1]] G39)]) rfl tyOK (ctx_lend (callable Try.func40 rfl rfl) P40 (ctx_lend (callable Try.func39 rfl rfl) P39 (ctx_nil))) [[0]] 2 Try.func19 rfl rfl (by decide) (by kernel_rfl) ?_
  rintro ds d ⟨N, a0, a1, r, rfl, hF, rfl⟩ hok
  clear hok
  refine ⟨rfl, ?_⟩
  show vc _ _ _ _ ⟨[(0, .dat (Palette.d a0)), (1, .dat (iN a1))], []⟩ _
  unfold f19 at hF
  repeat' (first
    | ((with_reducible first | refine q0 _ _ ?_ | refine q1 _ _ _ _ ?_ | refine q2 _ _ _ ?_); clear Q q0 q1 q2)
    | ((with_reducible first | refine seq_op ?hx (fun Q q0 q1 q2 => ?_)); (case hx => exact rfl); conv => whnf)
    | ((with_reducible refine cond_id ?_); (first | ((refine condKT rfl ?hy ?_); (case hy => first | assumption | exact notT (by assumption) | exact rfl)) | ((refine condKF rfl ?hy ?_); (case hy => first | assumption | exact notF (by assumption) | exact rfl)) | (revert hF; (with_reducible refine condF ?hx ?_ ?_); (case hx => exact rfl); all_goals (intro hc hF))))
    | ((with_reducible refine seq_nil ?_); (first | ((with_reducible refine hR _ ?_); clear R hR) | ((with_reducible refine hL _ ?_); clear L hL)))
    | ((with_reducible first | refine int_step ?_ | refine idx2 (by assumption) ?_ | refine idx3 (by assumption) ?_); conv => whnf)
    | (with_reducible first | refine vc_block ?_ | refine vc_skip ?_ | refine vc_ret ?_ | refine vc_exit ?_ | refine vc_region (fun R hR => ?_) | refine k_seq_ret ?_ | refine k_seq_exit ?_ | refine k_blk ?_ | refine k_blk_ret ?_ | refine k_blk_here ?_)
    | ((with_reducible refine vc_seqN [] ?hx ?_); (case hx => exact rfl))
    | (revert hF; (with_reducible refine G39.lend ?hx ?_); (case hx => exact rfl); intro v hF; conv => whnf)
    | (revert hF; (with_reducible refine G40.lend ?hx ?_); (case hx => exact rfl); intro v hF; conv => whnf)
    | ((with_reducible first | refine k_blk_out ?hx ?_ | refine vc_condT ?hx ?_); (case hx => exact rfl))
    | (revert hF; (with_reducible refine idx1 ?hn ?_); (case hn => first | exact rfl | exact (List.length_map _) | assumption | omega | simp); intro x hx hF; conv => whnf)
    | ((refine row_all ?hn ?_); (case hn => first | exact rfl | (simp; done) | (simp; omega)); conv => whnf)
    | ((with_reducible refine le_step ?hn ?_); (case hn => first | exact rfl | assumption | omega); conv => whnf)
    | ((refine ⟨?hx, ?_⟩); (case hx => exact ⟨rfl, Nat.le_of_ble_eq_true rfl, rfl⟩); conv => whnf)
    | ((with_reducible refine ex_step ?_); conv => whnf)
    | ((with_reducible refine both_T ?hx ?_); (case hx => first | exact rfl | assumption | exact notT (by assumption)); conv => whnf)
    | ((with_reducible refine both_F ?hx ?_); (case hx => first | exact rfl | assumption | exact notF (by assumption)); conv => whnf)
    | (revert hF; (with_reducible refine ite_step ?_ ?_) <;> (intro hc hF; conv => whnf))
    | ((with_reducible refine vc_condF ?hx ?_); (case hx => exact rfl))
    | (show retD _ _ _ _ _ _; conv => whnf)
    | ((refine ⟨?hx, trivial⟩); (case hx => (cases hF; exact rfl)))
    | ((refine ⟨?hx, ?_⟩); (case hx => decide); conv => whnf)
    | with_reducible refine k_seq ?_
    | (have hF : (none : Option _) = some _ := hF; cases hF))
end
end Go.Vc
namespace Go.Vc
open Go.Proofs
set_option linter.unusedVariables false
set_option linter.unnecessarySimpa false
set_option linter.unusedSimpArgs false
section
variable {c : Ctx} {p nid : Nat} {a b : Code} {st : St} {K : Ex → St → Prop}
def f27 (N : Nat) (a0 : Int) (a1 : Int) (a2 : Int) : Option (Bool) :=
 bif decide (a0 ≤ a1) then (some (decide (a1 ≤ a2)))
 else (some (false))
def G27 (ds : List D) (d : D) : Prop := ∃ (N : Nat) (a0 : Int) (a1 : Int) (a2 : Int) (r : Bool), ds = [iN a0, iN a1, iN a2] ∧ f27 N a0 a1 a2 = some r ∧ d = bN r
theorem G27.lend {N : Nat} {a0 : Int} {a1 : Int} {a2 : Int} {ρ : Type} {A : Bool → Option ρ} {q : ρ} {ds : List D} {K : D → Prop} (hd : ds = [iN a0, iN a1, iN a2]) (h : ∀ r, A r = some q → K (bN r)) (hF : (f27 N a0 a1 a2).bind A = some q) : ∃ d, (G27 ds d ∧ d.flatB = true) ∧ K d := by
  obtain ⟨r, hr, hA⟩ := bind_some hF
  exact ⟨_, ⟨⟨N, a0, a1, a2, r, hd, hr, rfl⟩, rfl⟩, h r hA⟩
set_option maxRecDepth 20000 in
set_option maxHeartbeats 4000000 in
theorem P27 : PureOK Try.prog 27 G27 := by
  refine pure_of_vc (c := mkCtx tyTree []) rfl tyOK (ctx_nil) [[0]] 3 Try.func27 rfl rfl (by decide) (by kernel_rfl) ?_
  rintro ds d ⟨N, a0, a1, a2, r, rfl, hF, rfl⟩ hok
  clear hok
  refine ⟨rfl, ?_⟩
  show vc _ _ _ _ ⟨[(0, .dat (iN a0)), (1, .dat (iN a1)), (2, .dat (iN a2))], []⟩ _
  unfold f27 at hF
  repeat' (first
    | ((with_reducible first | refine q0 _ _ ?_ | refine q1 _ _ _ _ ?_ | refine q2 _ _ _ ?_); clear Q q0 q1 q2)
    | ((with_reducible first | refine seq_op ?hx (fun Q q0 q1 q2 => ?_)); (case hx => exact rfl); conv => whnf)
    | ((with_reducible first | refine seq_off ?hx ?_ | refine seq_off0 ?hx ?_); (case hx => exact rfl))
    | ((with_reducible refine seq_id ?_); (first | ((first | refine seq_opK rfl ?hy (fun Q q0 q1 q2 => ?_) | refine seq_opK0 rfl ?hy (fun Q q0 q1 q2 => ?_)); (case hy => first | assumption | exact notT (by assumption) | exact rfl); conv => whnf) | ((first | refine seq_offK rfl ?hy ?_ | refine seq_offK0 rfl ?hy ?_); (case hy => first | assumption | exact notF (by assumption) | exact rfl)) | (revert hF; (with_reducible first | refine seq_opF ?hx ?_ ?_ | refine seq_opF0 ?hx ?_ ?_); (case hx => exact rfl); (intro hc hF Q q0 q1 q2; conv => whnf); rotate_left; (intro hc hF); rotate_right) | (revert hF; (with_reducible first | refine seq_opN ?hx ?_ ?_ | refine seq_opN0 ?hx ?_ ?_); (case hx => exact rfl); (intro hc hF); rotate_left; (intro hc hF Q q0 q1 q2; conv => whnf); rotate_right)))
    | ((with_reducible refine seq_nil ?_); (first | ((with_reducible refine hR _ ?_); clear R hR) | ((with_reducible refine hL _ ?_); clear L hL)))
    | ((with_reducible first | refine int_step ?_); conv => whnf)
    | (with_reducible first | refine vc_skip ?_ | refine vc_ret ?_ | refine vc_region (fun R hR => ?_) | refine k_seq_ret ?_)
    | ((with_reducible refine vc_seqN [] ?hx ?_); (case hx => exact rfl))
    | ((refine row_all ?hn ?_); (case hn => first | exact rfl | (simp; done) | (simp; omega)); conv => whnf)
    | ((with_reducible refine le_step ?hn ?_); (case hn => first | exact rfl | assumption | omega); conv => whnf)
    | ((refine ⟨?hx, ?_⟩); (case hx => exact ⟨rfl, Nat.le_of_ble_eq_true rfl, rfl⟩); conv => whnf)
    | ((with_reducible refine ex_step ?_); conv => whnf)
    | ((with_reducible refine both_T ?hx ?_); (case hx => first | exact rfl | assumption | exact notT (by assumption)); conv => whnf)
    | ((with_reducible refine both_F ?hx ?_); (case hx => first | exact rfl | assumption | exact notF (by assumption)); conv => whnf)
    | (revert hF; (with_reducible refine ite_step ?_ ?_) <;> (intro hc hF; conv => whnf))
    | (show retD _ _ _ _ _ _; conv => whnf)
    | ((refine ⟨?hx, trivial⟩); (case hx => (cases hF; exact rfl)))
    | ((refine ⟨?hx, ?_⟩); (case hx => decide); conv => whnf)
    | with_reducible refine k_seq ?_
    | (have hF : (none : Option _) = some _ := hF; cases hF))
end
end Go.Vc
namespace Go.Vc
open Go.Proofs
set_option linter.unusedVariables false
set_option linter.unnecessarySimpa false
set_option linter.unusedSimpArgs false
section
variable {c : Ctx} {p nid : Nat} {a b : Code} {st : St} {K : Ex → St → Prop}
def f24_c15 : Option (Int) :=
 some ((0 : Int))
def Lf24_c15 : Lp (Unit) Unit (Int) := lp0 ⟨[], [], [], []⟩ (fun _ => []) (fun _ => []) (fun _ => f24_c15)
theorem Ef24_c15 : (Lf24_c15).E () = f24_c15 := rfl
def f24_i1202_i1203000102_c7 (a0 : Palette) (v23 : Int) (r8 : Int → Option (Int)) : Option (Int) :=
 r8 (W (v23 + (1 : Int)))
def Lf24_i1202_i1203000102_c7 (a0 : Palette) (v23 : Int) (r8 : Int → Option (Int)) : Lp (Unit) Unit (Int) := lp0 ⟨[], [0], [], []⟩ (fun _ => []) (fun _ => [.box [.dat (iN a0.Colours), .dat (sl_sl_iN a0.Inks)]]) (fun _ => f24_i1202_i1203000102_c7 a0 v23 r8)
theorem Ef24_i1202_i1203000102_c7 {a0 v23 r8} : (Lf24_i1202_i1203000102_c7 a0 v23 r8).E () = f24_i1202_i1203000102_c7 a0 v23 r8 := rfl
def f24_i1202_i1203000102_2b (r2 : Int → Option (Int)) (a0 : Palette) (N : Nat) (v23 : Int) (r8 : Int → Option (Int)) (x2 : List Int) (k1 : Option (Int)) (v8 : Int) : Option (Int) :=
 bif decide (v8 < (List.length x2 : Int)) then ((ix x2 v8).bind fun x3 =>
 (f27 N (0 : Int) x3 (W (a0.Colours - (1 : Int)))).bind fun x4 =>
 bif !x4 then (bif decide ((0 : Int) ≤ v8) then (some ((4 : Int)))
 else (r8 (W (v23 + (1 : Int)))))
 else (r2 (W (v8 + (1 : Int)))))
 else k1
def f24_i1202_i1203000102_2 (a0 : Palette) (N : Nat) (v23 : Int) (r8 : Int → Option (Int)) (x2 : List Int) (k1 : Option (Int)) : Nat → Int → Option (Int)
  | 0, _ => none
  | n + 1, v8 => f24_i1202_i1203000102_2b (f24_i1202_i1203000102_2 a0 N v23 r8 x2 k1 n) a0 N v23 r8 x2 k1 v8
def Lf24_i1202_i1203000102_2 (a0 : Palette) (N : Nat) (v23 : Int) (r8 : Int → Option (Int)) (x2 : List Int) (k1 : Option (Int)) : Lp (Nat × Int) Unit (Int) := lp0 ⟨[0, 1, 7, 8], [0], [], []⟩ (fun (_, v8) => [.dat (sl_iN x2), .fn 47 [] [.ptr 0 0], .dat (iN (List.length x2 : Int)), .dat (iN v8)]) (fun (_, _) => [.box [.dat (iN a0.Colours), .dat (sl_sl_iN a0.Inks)]]) (fun (n, v8) => f24_i1202_i1203000102_2 a0 N v23 r8 x2 k1 n v8)
theorem Ef24_i1202_i1203000102_2 {a0 N v23 r8 x2 k1 n v8} : (Lf24_i1202_i1203000102_2 a0 N v23 r8 x2 k1).E (n, v8) = f24_i1202_i1203000102_2 a0 N v23 r8 x2 k1 n v8 := rfl
def f24_8b (r8 : Int → Option (Int)) (a0 : Palette) (N : Nat) (k0 : Option (Int)) (v23 : Int) : Option (Int) :=
 bif decide (v23 < (List.length a0.Inks : Int)) then ((ix a0.Inks v23).bind fun x2 =>
 bif decide (¬ (List.length x2 : Int) = a0.Colours) then (some ((3 : Int)))
 else (joinK (f24_i1202_i1203000102_c7 a0 v23 r8) fun k1 =>
 f24_i1202_i1203000102_2 a0 N v23 r8 x2 k1 N (0 : Int)))
 else k0
def f24_8 (a0 : Palette) (N : Nat) (k0 : Option (Int)) : Nat → Int → Option (Int)
  | 0, _ => none
  | n + 1, v23 => f24_8b (f24_8 a0 N k0 n) a0 N k0 v23
def Lf24_8 (a0 : Palette) (N : Nat) (k0 : Option (Int)) : Lp (Nat × Int) Unit (Int) := lp0 ⟨[1, 21, 22, 23], [0], [], []⟩ (fun (_, v23) => [.ptr 0 0, .dat (sl_sl_iN a0.Inks), .dat (iN (List.length a0.Inks : Int)), .dat (iN v23)]) (fun (_, _) => [.box [.dat (iN a0.Colours), .dat (sl_sl_iN a0.Inks)]]) (fun (n, v23) => f24_8 a0 N k0 n v23)
theorem Ef24_8 {a0 N k0 n v23} : (Lf24_8 a0 N k0).E (n, v23) = f24_8 a0 N k0 n v23 := rfl
def f24 (N : Nat) (a0 : Palette) : Option (Int) :=
 (f27 N (2 : Int) a0.Colours (7 : Int)).bind fun x1 =>
 bif !x1 then (some ((4 : Int)))
 else (bif decide ((List.length a0.Inks : Int) = (0 : Int)) then (some ((1 : Int)))
 else (bif decide ((6 : Int) < (List.length a0.Inks : Int)) then (some ((2 : Int)))
 else (joinK f24_c15 fun k0 =>
 f24_8 a0 N k0 N (0 : Int))))
def G24 (ds : List D) (d : D) : Prop := ∃ (N : Nat) (a0 : Palette) (r : Int), ds = [Palette.d a0] ∧ f24 N a0 = some r ∧ d = iN r
theorem G24.lend {N : Nat} {a0 : Palette} {ρ : Type} {A : Int → Option ρ} {q : ρ} {ds : List D} {K : D → Prop} (hd : ds = [Palette.d a0]) (h : ∀ r, A r = some q → K (iN r)) (hF : (f24 N a0).bind A = some q) : ∃ d, (G24 ds d ∧ d.flatB = true) ∧ K d := by
  obtain ⟨r, hr, hA⟩ := bind_some hF
  exact ⟨_, ⟨⟨N, a0, r, hd, hr, rfl⟩, rfl⟩, h r hA⟩
set_option maxRecDepth 20000 in
set_option maxHeartbeats 4000000 in
theorem P24 : PureOK Try.prog 24 G24 := by
  refine pure_of_vc (c := mkCtx tyTree [(36, false, inlPg (mkCtx tyTree [(56, false, inlPg (mkCtx tyTree [(47, false, inlPg (mkCtx tyTree [(27, true, lendPg [[0], [0], [0]] G27)]) Try.f47)]) Try.f56)]) Try.f36), (27, true, lendPg [[0], [0], [0]] G27)]) rfl tyOK (ctx_eff (callable Try.func36 rfl rfl) (CallOK.inl rfl tyOK (ctx_eff (callable Try.func56 rfl rfl) (CallOK.inl rfl tyOK (ctx_eff (callable Try.func47 rfl rfl) (CallOK.inl rfl tyOK (ctx_lend (callable Try.func27 rfl rfl) P27 (ctx_nil)) Try.func47 (by kernel_rfl)) (ctx_nil)) Try.func56 (by kernel_rfl)) (ctx_nil)) Try.func36 (by kernel_rfl)) (ctx_lend (callable Try.func27 rfl rfl) P27 (ctx_nil))) [[0]] 1 Try.func24 rfl rfl (by decide) (by kernel_rfl) ?_
  rintro ds d ⟨N, a0, r, rfl, hF, rfl⟩ hok
  clear hok
  refine ⟨rfl, ?_⟩
  show vc _ _ _ _ ⟨[(0, .dat (Palette.d a0))], []⟩ _
  unfold f24 at hF
  repeat' (first
    | ((with_reducible first | refine q0 _ _ ?_ | refine q1 _ _ _ _ ?_ | refine q2 _ _ _ ?_); clear Q q0 q1 q2)
    | ((with_reducible first | refine seq_op ?hx (fun Q q0 q1 q2 => ?_)); (case hx => exact rfl); conv => whnf)
    | ((with_reducible refine cond_id ?_); (first | ((refine condKT rfl ?hy ?_); (case hy => first | assumption | exact notT (by assumption) | exact rfl)) | ((refine condKF rfl ?hy ?_); (case hy => first | assumption | exact notF (by assumption) | exact rfl)) | (revert hF; (with_reducible refine condF ?hx ?_ ?_); (case hx => exact rfl); all_goals (intro hc hF))))
    | ((with_reducible refine seq_nil ?_); (first | ((with_reducible refine hR _ ?_); clear R hR) | ((with_reducible refine hL _ ?_); clear L hL)))
    | ((with_reducible first | refine int_step ?_ | refine len_step ?_ | refine idx2 (by assumption) ?_ | refine idx3 (by assumption) ?_); conv => whnf)
    | (with_reducible first | refine vc_block ?_ | refine vc_skip ?_ | refine vc_ret ?_ | refine vc_exit ?_ | refine vc_region (fun R hR => ?_) | refine k_seq_ret ?_ | refine k_seq_exit ?_ | refine k_blk ?_ | refine k_blk_ret ?_ | refine k_blk_here ?_ | refine k_loop_ret ?_ | refine k_loop_exit ?_)
    | ((with_reducible refine vc_seqN [15, 1203000103000000007] ?hx ?_); (case hx => exact rfl))
    | ((with_reducible refine seq_id' ?_); (with_reducible replace hF := chkJ (f := f24_c15) hF); revert hF; (refine Lp.cut0 Lf24_c15 f24_c15 15 rfl rfl ?_ ?_); (intro hF); rotate_left; (rintro _ hF; dsimp only [Lf24_c15] at hF; unfold f24_c15 at hF); rotate_right)
    | ((with_reducible refine head_id ?_); (with_reducible replace hF := chkE (e := f24_c15) hF); exact Lp.head Ef24_c15 hF () ⟨_, rfl, rfl, rfl, rfl⟩ rfl)
    | ((with_reducible refine seq_id' ?_); (with_reducible replace hF := chkJ (f := f24_i1202_i1203000102_c7 _ _ _) hF); revert hF; (refine Lp.cut3 Lf24_i1202_i1203000102_c7 f24_i1202_i1203000102_c7 1203000103000000007 rfl rfl ?_ ?_); (intro hF); rotate_left; (rintro _ hF; dsimp only [Lf24_i1202_i1203000102_c7] at hF; unfold f24_i1202_i1203000102_c7 at hF); rotate_right)
    | ((with_reducible refine head_id ?_); (with_reducible replace hF := chkE (e := f24_i1202_i1203000102_c7 ..) hF); exact Lp.head Ef24_i1202_i1203000102_c7 hF () ⟨_, rfl, rfl, rfl, rfl⟩ rfl)
    | ((with_reducible refine loop_id ?_); (with_reducible replace hF := chkE (e := f24_i1202_i1203000102_2 ..) hF); revert hF; (refine Lp.loop Ef24_i1202_i1203000102_2 () rfl ⟨_, rfl, rfl, rfl, rfl⟩ rfl (fun _ => rfl) ?_); rintro n v8 hF; dsimp only [Lf24_i1202_i1203000102_2, f24_i1202_i1203000102_2] at hF; unfold f24_i1202_i1203000102_2b at hF)
    | ((with_reducible refine back_id ?_); (with_reducible replace hF := chkE (e := f24_i1202_i1203000102_2 ..) hF); exact Lp.back Ef24_i1202_i1203000102_2 hF () ⟨_, rfl, rfl, rfl, rfl⟩ rfl)
    | ((with_reducible refine loop_id ?_); (with_reducible replace hF := chkE (e := f24_8 ..) hF); revert hF; (refine Lp.loop Ef24_8 () rfl ⟨_, rfl, rfl, rfl, rfl⟩ rfl (fun _ => rfl) ?_); rintro n v23 hF; dsimp only [Lf24_8, f24_8] at hF; unfold f24_8b at hF)
    | ((with_reducible refine back_id ?_); (with_reducible replace hF := chkE (e := f24_8 ..) hF); exact Lp.back Ef24_8 hF () ⟨_, rfl, rfl, rfl, rfl⟩ rfl)
    | (revert hF; (with_reducible refine G27.lend ?hx ?_); (case hx => exact rfl); intro v hF; conv => whnf)
    | ((with_reducible first | refine k_blk_out ?hx ?_ | refine vc_condT ?hx ?_); (case hx => exact rfl))
    | (revert hF; (with_reducible refine idx1 ?hn ?_); (case hn => first | exact rfl | exact (List.length_map _) | assumption | omega | simp); intro x hx hF; conv => whnf)
    | ((refine row_all ?hn ?_); (case hn => first | exact rfl | (simp; done) | (simp; omega)); conv => whnf)
    | ((with_reducible refine le_step ?hn ?_); (case hn => first | exact rfl | assumption | omega); conv => whnf)
    | ((refine ⟨?hx, ?_⟩); (case hx => exact ⟨rfl, Nat.le_of_ble_eq_true rfl, rfl⟩); conv => whnf)
    | ((with_reducible refine ex_step ?_); conv => whnf)
    | ((with_reducible refine both_T ?hx ?_); (case hx => first | exact rfl | assumption | exact notT (by assumption)); conv => whnf)
    | ((with_reducible refine both_F ?hx ?_); (case hx => first | exact rfl | assumption | exact notF (by assumption)); conv => whnf)
    | (revert hF; (with_reducible refine ite_step ?_ ?_) <;> (intro hc hF; conv => whnf))
    | ((with_reducible refine vc_condF ?hx ?_); (case hx => exact rfl))
    | (show retD _ _ _ _ _ _; conv => whnf)
    | ((refine inl_step ?ha ?hb ?hc rfl ?_); (case ha => exact rfl); (case hb => omega); (case hc => exact Nat.le_of_ble_eq_true rfl))
    | (show Kinl _ _ _ _ _ _ _; conv => whnf)
    | ((with_reducible refine kinl_step ?ha ?hb ?_); (case ha => exact rfl); (case hb => exact rfl); conv => whnf)
    | ((refine ⟨?hx, trivial⟩); (case hx => (cases hF; exact rfl)))
    | ((refine ⟨?hx, ?_⟩); (case hx => decide); conv => whnf)
    | with_reducible refine k_seq ?_
    | (have hF : (none : Option _) = some _ := hF; cases hF))
end
end Go.Vc
namespace Go.Vc
open Go.Proofs
set_option linter.unusedVariables false
set_option linter.unnecessarySimpa false
set_option linter.unusedSimpArgs false
section
variable {c : Ctx} {p nid : Nat} {a b : Code} {st : St} {K : Ex → St → Prop}
def f49 (N : Nat) (a0 : Int) (a1 : Int) : Option (Bool) :=
 (chk (decide (0 ≤ a1))).bind fun _ =>
 some (decide ((bitsI .and .u8 (Int.fdiv a0 (2 ^ (min (Int.toNat a1) 8))) (1 : Int)) = (1 : Int)))
def G49 (ds : List D) (d : D) : Prop := ∃ (N : Nat) (a0 : Int) (a1 : Int) (r : Bool), ds = [u8N a0, iN a1] ∧ f49 N a0 a1 = some r ∧ d = bN r
theorem G49.lend {N : Nat} {a0 : Int} {a1 : Int} {ρ : Type} {A : Bool → Option ρ} {q : ρ} {ds : List D} {K : D → Prop} (hd : ds = [u8N a0, iN a1]) (h : ∀ r, A r = some q → K (bN r)) (hF : (f49 N a0 a1).bind A = some q) : ∃ d, (G49 ds d ∧ d.flatB = true) ∧ K d := by
  obtain ⟨r, hr, hA⟩ := bind_some hF
  exact ⟨_, ⟨⟨N, a0, a1, r, hd, hr, rfl⟩, rfl⟩, h r hA⟩
set_option maxRecDepth 20000 in
set_option maxHeartbeats 4000000 in
theorem P49 : PureOK Try.prog 49 G49 := by
  refine pure_of_vc (c := mkCtx tyTree []) rfl tyOK (ctx_nil) [[0]] 2 Try.func49 rfl rfl (by decide) (by kernel_rfl) ?_
  rintro ds d ⟨N, a0, a1, r, rfl, hF, rfl⟩ hok
  clear hok
  refine ⟨rfl, ?_⟩
  show vc _ _ _ _ ⟨[(0, .dat (u8N a0)), (1, .dat (iN a1))], []⟩ _
  unfold f49 at hF
  repeat' (first
    | ((with_reducible first | refine q0 _ _ ?_ | refine q1 _ _ _ _ ?_ | refine q2 _ _ _ ?_); clear Q q0 q1 q2)
    | ((with_reducible first | refine seq_op ?hx (fun Q q0 q1 q2 => ?_)); (case hx => exact rfl); conv => whnf)
    | ((with_reducible refine seq_nil ?_); (first | ((with_reducible refine hR _ ?_); clear R hR) | ((with_reducible refine hL _ ?_); clear L hL)))
    | ((with_reducible first | refine int_step ?_); conv => whnf)
    | (with_reducible first | refine vc_skip ?_ | refine vc_ret ?_ | refine vc_region (fun R hR => ?_) | refine k_seq_ret ?_)
    | ((with_reducible refine vc_seqN [] ?hx ?_); (case hx => exact rfl))
    | ((refine row_all ?hn ?_); (case hn => first | exact rfl | (simp; done) | (simp; omega)); conv => whnf)
    | ((with_reducible refine le_step ?hn ?_); (case hn => first | exact rfl | assumption | omega); conv => whnf)
    | ((refine ⟨?hx, ?_⟩); (case hx => exact ⟨rfl, Nat.le_of_ble_eq_true rfl, rfl⟩); conv => whnf)
    | ((with_reducible refine ex_step ?_); conv => whnf)
    | ((with_reducible have hG := chk_fact hF); clear hF; (refine ⟨?hx, ?_⟩); (case hx => (first | exact of_decide_eq_true hG.1 | exact hG.1)); have hF := hG.2; clear hG; conv => whnf)
    | ((with_reducible refine both_T ?hx ?_); (case hx => first | exact rfl | assumption | exact notT (by assumption)); conv => whnf)
    | ((with_reducible refine both_F ?hx ?_); (case hx => first | exact rfl | assumption | exact notF (by assumption)); conv => whnf)
    | (revert hF; (with_reducible refine ite_step ?_ ?_) <;> (intro hc hF; conv => whnf))
    | (show retD _ _ _ _ _ _; conv => whnf)
    | ((refine ⟨?hx, trivial⟩); (case hx => (cases hF; exact rfl)))
    | ((refine ⟨?hx, ?_⟩); (case hx => decide); conv => whnf)
    | with_reducible refine k_seq ?_
    | (have hF : (none : Option _) = some _ := hF; cases hF))
end
end Go.Vc
namespace Go.Vc
open Go.Proofs
set_option linter.unusedVariables false
set_option linter.unnecessarySimpa false
set_option linter.unusedSimpArgs false
section
variable {c : Ctx} {p nid : Nat} {a b : Code} {st : St} {K : Ex → St → Prop}
def f26_c9 (out3 : List Int) : Option ((List Int)) :=
 some (out3)
def Lf26_c9 : Lp ((List Int)) (Nat) ((List Int)) := ⟨⟨[3], [90003], [(.slot 3, 90003, 3, 1)], []⟩, fun out3 => [.rs 90003 (List.length out3)], fun out3 => [.row 3 1 (List.map iN out3)], fun out3 => f26_c9 out3, fun _ m0 => [.rs 90003 m0], fun out3 _ => [.row 3 1 (List.map iN out3)], fun out3 => List.length out3, fun _ => rfl, fun _ => rfl⟩
theorem Ef26_c9 {out3} : (Lf26_c9).E out3 = f26_c9 out3 := rfl
def f26_4b (r4 : (List Int) → Int → Option ((List Int))) (a0 : Int) (N : Nat) (k0 : (List Int) → Option ((List Int))) (out3 : List Int) (v8 : Int) : Option ((List Int)) :=
 bif decide (v8 < (7 : Int)) then ((f49 N a0 v8).bind fun x1 =>
 bif x1 then ((app 8 out3 [v8]).bind fun x2 =>
 r4 x2 (W (v8 + (1 : Int))))
 else (r4 out3 (W (v8 + (1 : Int)))))
 else (k0 out3)
def f26_4 (a0 : Int) (N : Nat) (k0 : (List Int) → Option ((List Int))) : Nat → (List Int) → Int → Option ((List Int))
  | 0, _, _ => none
  | n + 1, out3, v8 => f26_4b (f26_4 a0 N k0 n) a0 N k0 out3 v8
def Lf26_4 (a0 : Int) (N : Nat) (k0 : (List Int) → Option ((List Int))) : Lp (Nat × (List Int) × Int) (Nat) ((List Int)) := ⟨⟨[3, 4, 8], [90003], [(.slot 3, 90003, 3, 1)], []⟩, fun (_, out3, v8) => [.rs 90003 (List.length out3), .fn 49 [.dat (u8N a0)] [], .dat (iN v8)], fun (_, out3, _) => [.row 3 1 (List.map iN out3)], fun (n, out3, v8) => f26_4 a0 N k0 n out3 v8, fun (_, _, v8) m0 => [.rs 90003 m0, .fn 49 [.dat (u8N a0)] [], .dat (iN v8)], fun (_, out3, _) _ => [.row 3 1 (List.map iN out3)], fun (_, out3, _) => List.length out3, fun _ => rfl, fun _ => rfl⟩
theorem Ef26_4 {a0 N k0 n out3 v8} : (Lf26_4 a0 N k0).E (n, out3, v8) = f26_4 a0 N k0 n out3 v8 := rfl
def f26 (N : Nat) (a0 : Int) : Option ((List Int)) :=
 joinK f26_c9 fun k0 =>
 f26_4 a0 N k0 N [] (0 : Int)
def G26 (ds : List D) (d : D) : Prop := ∃ (N : Nat) (a0 : Int) (r : (List Int)), ds = [u8N a0] ∧ f26 N a0 = some r ∧ d = sl_iN r
theorem G26.step {N : Nat} {a0 : Int} {ρ : Type} {A : (List Int) → Option ρ} {q : ρ} {ds : List D} {K : D → Prop} (hd : ds = [u8N a0]) (h : ∀ r, A r = some q → K (sl_iN r)) (hF : (f26 N a0).bind A = some q) : ∃ d, G26 ds d ∧ K d := by
  obtain ⟨r, hr, hA⟩ := bind_some hF
  exact ⟨_, ⟨N, a0, r, hd, hr, rfl⟩, h r hA⟩
set_option maxRecDepth 20000 in
set_option maxHeartbeats 4000000 in
theorem P26 : PureOK Try.prog 26 G26 := by
  refine pure_of_vc (c := mkCtx tyTree [(49, true, lendPg [[0], [0]] G49)]) rfl tyOK (ctx_lend (callable Try.func49 rfl rfl) P49 (ctx_nil)) [[1]] 1 Try.func26 rfl rfl (by decide) (by kernel_rfl) ?_
  rintro ds d ⟨N, a0, r, rfl, hF, rfl⟩ hok
  clear hok
  refine ⟨rfl, ?_⟩
  show vc _ _ _ _ ⟨[(0, .dat (u8N a0))], []⟩ _
  unfold f26 at hF
  repeat' (first
    | ((with_reducible first | refine q0 _ _ ?_ | refine q1 _ _ _ _ ?_ | refine q2 _ _ _ ?_); clear Q q0 q1 q2)
    | ((with_reducible first | refine seq_op ?hx (fun Q q0 q1 q2 => ?_)); (case hx => exact rfl); conv => whnf)
    | ((with_reducible refine cond_id ?_); (first | ((refine condKT rfl ?hy ?_); (case hy => first | assumption | exact notT (by assumption) | exact rfl)) | ((refine condKF rfl ?hy ?_); (case hy => first | assumption | exact notF (by assumption) | exact rfl)) | (revert hF; (with_reducible refine condF ?hx ?_ ?_); (case hx => exact rfl); all_goals (intro hc hF))))
    | ((with_reducible refine seq_nil ?_); (first | ((with_reducible refine hR _ ?_); clear R hR) | ((with_reducible refine hL _ ?_); clear L hL)))
    | ((with_reducible first | refine int_step ?_ | refine len_step ?_); conv => whnf)
    | (with_reducible first | refine vc_block ?_ | refine vc_skip ?_ | refine vc_ret ?_ | refine vc_exit ?_ | refine vc_region (fun R hR => ?_) | refine k_seq_ret ?_ | refine k_seq_exit ?_ | refine k_blk ?_ | refine k_blk_ret ?_ | refine k_blk_here ?_ | refine k_loop_ret ?_ | refine k_loop_exit ?_)
    | ((with_reducible refine vc_seqN [9] ?hx ?_); (case hx => exact rfl))
    | ((with_reducible refine seq_id' ?_); (with_reducible replace hF := chkJ (f := f26_c9) hF); revert hF; (refine Lp.cut0 Lf26_c9 f26_c9 9 rfl rfl ?_ ?_); (intro hF); rotate_left; (rintro out3 hF; dsimp only [Lf26_c9] at hF; unfold f26_c9 at hF); rotate_right)
    | ((with_reducible refine head_id ?_); (with_reducible replace hF := chkE (e := f26_c9 ..) hF); exact Lp.head Ef26_c9 hF _ ⟨_, rfl, rfl, rfl, rfl⟩ (by first | exact rfl | ((try dsimp only [Lf26_c9]); first | assumption | omega | (simp only [List.length_set]; done))))
    | ((with_reducible refine loop_id ?_); (with_reducible replace hF := chkE (e := f26_4 ..) hF); revert hF; (refine Lp.loop Ef26_4 _ rfl ⟨_, rfl, rfl, rfl, rfl⟩ (by first | exact rfl | ((try dsimp only [Lf26_4]); first | assumption | omega | (simp only [List.length_set]; done))) (fun _ => rfl) ?_); rintro n ⟨out3, v8⟩ hF; dsimp only [Lf26_4, f26_4] at hF; unfold f26_4b at hF)
    | ((with_reducible refine back_id ?_); (with_reducible replace hF := chkE (e := f26_4 ..) hF); exact Lp.back Ef26_4 hF _ ⟨_, rfl, rfl, rfl, rfl⟩ (by first | exact rfl | ((try dsimp only [Lf26_4]); first | assumption | omega | (simp only [List.length_set]; done))))
    | (revert hF; (with_reducible refine G49.lend ?hx ?_); (case hx => exact rfl); intro v hF; conv => whnf)
    | ((with_reducible first | refine k_blk_out ?hx ?_ | refine vc_condT ?hx ?_); (case hx => exact rfl))
    | ((with_reducible have hG := app_fact hF); clear hF; (first | ((refine app_row hG ?hn ?hs (fun q hF => ?_)); (case hn => first | exact rfl | assumption | omega); (case hs => exact rfl)) | ((refine app_nil (d := iN) hG ?hs (fun q hF => ?_)); (case hs => exact rfl)) | ((refine app_gen (d := iN) hG ?ho ?hn ?hs (fun q hF => ?_)); (case ho => exact rfl); (case hn => exact rfl); (case hs => exact rfl))); clear hG; conv => whnf)
    | ((refine row_all ?hn ?_); (case hn => first | exact rfl | (simp; done) | (simp; omega)); conv => whnf)
    | ((with_reducible refine le_step ?hn ?_); (case hn => first | exact rfl | assumption | omega); conv => whnf)
    | ((refine ⟨?hx, ?_⟩); (case hx => exact ⟨rfl, Nat.le_of_ble_eq_true rfl, rfl⟩); conv => whnf)
    | ((with_reducible refine ex_step ?_); conv => whnf)
    | ((with_reducible refine both_T ?hx ?_); (case hx => first | exact rfl | assumption | exact notT (by assumption)); conv => whnf)
    | ((with_reducible refine both_F ?hx ?_); (case hx => first | exact rfl | assumption | exact notF (by assumption)); conv => whnf)
    | (revert hF; (with_reducible refine ite_step ?_ ?_) <;> (intro hc hF; conv => whnf))
    | ((with_reducible refine vc_condF ?hx ?_); (case hx => exact rfl))
    | (show retD _ _ _ _ _ _; conv => whnf)
    | ((refine ⟨?hx, trivial⟩); (case hx => (cases hF; exact rfl)))
    | ((refine ⟨?hx, ?_⟩); (case hx => decide); conv => whnf)
    | with_reducible refine k_seq ?_
    | (have hF : (none : Option _) = some _ := hF; cases hF))
end
end Go.Vc
namespace Go.Vc
open Go.Proofs
set_option linter.unusedVariables false
set_option linter.unnecessarySimpa false
set_option linter.unusedSimpArgs false
section
variable {c : Ctx} {p nid : Nat} {a b : Code} {st : St} {K : Ex → St → Prop}
def f48 (N : Nat) (a0 : Int) (a1 : Int) : Option (Int) :=
 some (a0)
def G48 (ds : List D) (d : D) : Prop := ∃ (N : Nat) (a0 : Int) (a1 : Int) (r : Int), ds = [iN a0, iN a1] ∧ f48 N a0 a1 = some r ∧ d = iN r
theorem G48.lend {N : Nat} {a0 : Int} {a1 : Int} {ρ : Type} {A : Int → Option ρ} {q : ρ} {ds : List D} {K : D → Prop} (hd : ds = [iN a0, iN a1]) (h : ∀ r, A r = some q → K (iN r)) (hF : (f48 N a0 a1).bind A = some q) : ∃ d, (G48 ds d ∧ d.flatB = true) ∧ K d := by
  obtain ⟨r, hr, hA⟩ := bind_some hF
  exact ⟨_, ⟨⟨N, a0, a1, r, hd, hr, rfl⟩, rfl⟩, h r hA⟩
set_option maxRecDepth 20000 in
set_option maxHeartbeats 4000000 in
theorem P48 : PureOK Try.prog 48 G48 := by
  refine pure_of_vc (c := mkCtx tyTree []) rfl tyOK (ctx_nil) [[0]] 2 Try.func48 rfl rfl (by decide) (by kernel_rfl) ?_
  rintro ds d ⟨N, a0, a1, r, rfl, hF, rfl⟩ hok
  clear hok
  refine ⟨rfl, ?_⟩
  show vc _ _ _ _ ⟨[(0, .dat (iN a0)), (1, .dat (iN a1))], []⟩ _
  unfold f48 at hF
  repeat' (first
    | ((with_reducible first | refine q0 _ _ ?_ | refine q1 _ _ _ _ ?_ | refine q2 _ _ _ ?_); clear Q q0 q1 q2)
    | ((with_reducible first | refine seq_op ?hx (fun Q q0 q1 q2 => ?_)); (case hx => exact rfl); conv => whnf)
    | ((with_reducible refine seq_nil ?_); (first | ((with_reducible refine hR _ ?_); clear R hR) | ((with_reducible refine hL _ ?_); clear L hL)))
    | ((with_reducible first | refine int_step ?_); conv => whnf)
    | (with_reducible first | refine vc_skip ?_ | refine vc_ret ?_ | refine vc_region (fun R hR => ?_) | refine k_seq_ret ?_)
    | ((with_reducible refine vc_seqN [] ?hx ?_); (case hx => exact rfl))
    | ((refine row_all ?hn ?_); (case hn => first | exact rfl | (simp; done) | (simp; omega)); conv => whnf)
    | ((with_reducible refine le_step ?hn ?_); (case hn => first | exact rfl | assumption | omega); conv => whnf)
    | ((refine ⟨?hx, ?_⟩); (case hx => exact ⟨rfl, Nat.le_of_ble_eq_true rfl, rfl⟩); conv => whnf)
    | ((with_reducible refine ex_step ?_); conv => whnf)
    | ((with_reducible refine both_T ?hx ?_); (case hx => first | exact rfl | assumption | exact notT (by assumption)); conv => whnf)
    | ((with_reducible refine both_F ?hx ?_); (case hx => first | exact rfl | assumption | exact notF (by assumption)); conv => whnf)
    | (revert hF; (with_reducible refine ite_step ?_ ?_) <;> (intro hc hF; conv => whnf))
    | (show retD _ _ _ _ _ _; conv => whnf)
    | ((refine ⟨?hx, trivial⟩); (case hx => (cases hF; exact rfl)))
    | ((refine ⟨?hx, ?_⟩); (case hx => decide); conv => whnf)
    | with_reducible refine k_seq ?_
    | (have hF : (none : Option _) = some _ := hF; cases hF))
end
end Go.Vc
namespace Go.Vc
open Go.Proofs
set_option linter.unusedVariables false
set_option linter.unnecessarySimpa false
set_option linter.unusedSimpArgs false
section
variable {c : Ctx} {p nid : Nat} {a b : Code} {st : St} {K : Ex → St → Prop}
def f80 (N : Nat) (a0 : List Int) (a1 : Int) : Option (Int) :=
 (ix a0 a1).bind fun x1 =>
 some (x1)
def G80 (ds : List D) (d : D) : Prop := ∃ (N : Nat) (a0 : List Int) (a1 : Int) (r : Int), ds = [sl_iN a0, iN a1] ∧ f80 N a0 a1 = some r ∧ d = iN r
theorem G80.lend {N : Nat} {a0 : List Int} {a1 : Int} {ρ : Type} {A : Int → Option ρ} {q : ρ} {ds : List D} {K : D → Prop} (hd : ds = [sl_iN a0, iN a1]) (h : ∀ r, A r = some q → K (iN r)) (hF : (f80 N a0 a1).bind A = some q) : ∃ d, (G80 ds d ∧ d.flatB = true) ∧ K d := by
  obtain ⟨r, hr, hA⟩ := bind_some hF
  exact ⟨_, ⟨⟨N, a0, a1, r, hd, hr, rfl⟩, rfl⟩, h r hA⟩
set_option maxRecDepth 20000 in
set_option maxHeartbeats 4000000 in
theorem P80 : PureOK Try.prog 80 G80 := by
  refine pure_of_vc (c := mkCtx tyTree []) rfl tyOK (ctx_nil) [[0]] 2 Try.func80 rfl rfl (by decide) (by kernel_rfl) ?_
  rintro ds d ⟨N, a0, a1, r, rfl, hF, rfl⟩ hok
  clear hok
  refine ⟨rfl, ?_⟩
  show vc _ _ _ _ ⟨[(0, .dat (sl_iN a0)), (1, .dat (iN a1))], []⟩ _
  unfold f80 at hF
  repeat' (first
    | ((with_reducible first | refine q0 _ _ ?_ | refine q1 _ _ _ _ ?_ | refine q2 _ _ _ ?_); clear Q q0 q1 q2)
    | ((with_reducible first | refine seq_op ?hx (fun Q q0 q1 q2 => ?_)); (case hx => exact rfl); conv => whnf)
    | ((with_reducible refine seq_nil ?_); (first | ((with_reducible refine hR _ ?_); clear R hR) | ((with_reducible refine hL _ ?_); clear L hL)))
    | ((with_reducible first | refine int_step ?_ | refine idx2 (by assumption) ?_ | refine idx3 (by assumption) ?_); conv => whnf)
    | (with_reducible first | refine vc_skip ?_ | refine vc_ret ?_ | refine vc_region (fun R hR => ?_) | refine k_seq_ret ?_)
    | ((with_reducible refine vc_seqN [] ?hx ?_); (case hx => exact rfl))
    | (revert hF; (with_reducible refine idx1 ?hn ?_); (case hn => first | exact rfl | exact (List.length_map _) | assumption | omega | simp); intro x hx hF; conv => whnf)
    | ((refine row_all ?hn ?_); (case hn => first | exact rfl | (simp; done) | (simp; omega)); conv => whnf)
    | ((with_reducible refine le_step ?hn ?_); (case hn => first | exact rfl | assumption | omega); conv => whnf)
    | ((refine ⟨?hx, ?_⟩); (case hx => exact ⟨rfl, Nat.le_of_ble_eq_true rfl, rfl⟩); conv => whnf)
    | ((with_reducible refine ex_step ?_); conv => whnf)
    | ((with_reducible refine both_T ?hx ?_); (case hx => first | exact rfl | assumption | exact notT (by assumption)); conv => whnf)
    | ((with_reducible refine both_F ?hx ?_); (case hx => first | exact rfl | assumption | exact notF (by assumption)); conv => whnf)
    | (revert hF; (with_reducible refine ite_step ?_ ?_) <;> (intro hc hF; conv => whnf))
    | (show retD _ _ _ _ _ _; conv => whnf)
    | ((refine ⟨?hx, trivial⟩); (case hx => (cases hF; exact rfl)))
    | ((refine ⟨?hx, ?_⟩); (case hx => decide); conv => whnf)
    | with_reducible refine k_seq ?_
    | (have hF : (none : Option _) = some _ := hF; cases hF))
end
end Go.Vc
namespace Go.Vc
open Go.Proofs
set_option linter.unusedVariables false
set_option linter.unnecessarySimpa false
set_option linter.unusedSimpArgs false
section
variable {c : Ctx} {p nid : Nat} {a b : Code} {st : St} {K : Ex → St → Prop}
def f25_c9 (out7 : Int) : Option (Int) :=
 some (out7)
def Lf25_c9 : Lp (Int) Unit (Int) := lp0 ⟨[7], [], [], []⟩ (fun out7 => [.dat (u8N out7)]) (fun _ => []) (fun out7 => f25_c9 out7)
theorem Ef25_c9 {out7} : (Lf25_c9).E out7 = f25_c9 out7 := rfl
def f25_5b (r5 : Int → Int → Option (Int)) (N : Nat) (x3 : List Int) (k0 : Int → Option (Int)) (x4 : List Int) (out7 : Int) (v15 : Int) : Option (Int) :=
 bif decide (v15 < (List.length x4 : Int)) then ((ix x4 v15).bind fun x5 =>
 (f80 N x3 x5).bind fun x6 =>
 (chk (decide (0 ≤ x6))).bind fun _ =>
 r5 (bitsI .or .u8 out7 (Wk .u8 ((1 : Int) * 2 ^ (min (Int.toNat x6) 8)))) (W (v15 + (1 : Int))))
 else (k0 out7)
def f25_5 (N : Nat) (x3 : List Int) (k0 : Int → Option (Int)) (x4 : List Int) : Nat → Int → Int → Option (Int)
  | 0, _, _ => none
  | n + 1, out7, v15 => f25_5b (f25_5 N x3 k0 x4 n) N x3 k0 x4 out7 v15
def Lf25_5 (N : Nat) (x3 : List Int) (k0 : Int → Option (Int)) (x4 : List Int) : Lp (Nat × Int × Int) Unit (Int) := lp0 ⟨[6, 7, 13, 14, 15], [], [], []⟩ (fun (_, out7, v15) => [.dat (.ifc 82 (sl_iN x3)), .dat (u8N out7), .dat (sl_iN x4), .dat (iN (List.length x4 : Int)), .dat (iN v15)]) (fun (_, _, _) => []) (fun (n, out7, v15) => f25_5 N x3 k0 x4 n out7 v15)
theorem Ef25_5 {N x3 k0 x4 n out7 v15} : (Lf25_5 N x3 k0 x4).E (n, out7, v15) = f25_5 N x3 k0 x4 n out7 v15 := rfl
def f25 (N : Nat) (a0 : Int) (a1 : I56) : Option (Int) :=
 match a1 with
 | .nil => none
 | .c81 x1 => ((f48 N x1 (0 : Int)).bind fun x2 =>
 (chk (decide (0 ≤ x2))).bind fun _ =>
 some (bitsI .or .u8 a0 (Wk .u8 ((1 : Int) * 2 ^ (min (Int.toNat x2) 8)))))
 | .c82 x3 => (joinK f25_c9 fun k0 =>
 (f26 N a0).bind fun x4 =>
 f25_5 N x3 k0 x4 N a0 (0 : Int))
def G25 (ds : List D) (d : D) : Prop := ∃ (N : Nat) (a0 : Int) (a1 : I56) (r : Int), ds = [u8N a0, I56.d a1] ∧ f25 N a0 a1 = some r ∧ d = u8N r
theorem G25.lend {N : Nat} {a0 : Int} {a1 : I56} {ρ : Type} {A : Int → Option ρ} {q : ρ} {ds : List D} {K : D → Prop} (hd : ds = [u8N a0, I56.d a1]) (h : ∀ r, A r = some q → K (u8N r)) (hF : (f25 N a0 a1).bind A = some q) : ∃ d, (G25 ds d ∧ d.flatB = true) ∧ K d := by
  obtain ⟨r, hr, hA⟩ := bind_some hF
  exact ⟨_, ⟨⟨N, a0, a1, r, hd, hr, rfl⟩, rfl⟩, h r hA⟩
set_option maxRecDepth 20000 in
set_option maxHeartbeats 4000000 in
theorem P25 : PureOK Try.prog 25 G25 := by
  refine pure_of_vc (c := mkCtx tyTree [(80, true, lendPg [[1], [0]] G80), (48, true, lendPg [[0], [0]] G48), (26, true, purePg [[0]] G26)]) rfl tyOK (ctx_lend (callable Try.func80 rfl rfl) P80 (ctx_lend (callable Try.func48 rfl rfl) P48 (ctx_cons (callable Try.func26 rfl rfl) P26 (ctx_nil)))) [[0]] 2 Try.func25 rfl rfl (by decide) (by kernel_rfl) ?_
  rintro ds d ⟨N, a0, a1, r, rfl, hF, rfl⟩ hok
  clear hok
  refine ⟨rfl, ?_⟩
  cases a1
  · unfold f25 at hF; cases hF
  all_goals (first | show vc _ _ _ _ ⟨[(0, .dat (u8N a0)), (1, .dat (.ifc 81 (iN _)))], []⟩ _ | show vc _ _ _ _ ⟨[(0, .dat (u8N a0)), (1, .dat (.ifc 82 (sl_iN _)))], []⟩ _)
  all_goals (unfold f25 at hF; dsimp only at hF)
  repeat' (first
    | ((with_reducible first | refine q0 _ _ ?_ | refine q1 _ _ _ _ ?_ | refine q2 _ _ _ ?_); clear Q q0 q1 q2)
    | ((with_reducible first | refine seq_op ?hx (fun Q q0 q1 q2 => ?_)); (case hx => exact rfl); conv => whnf)
    | ((with_reducible refine cond_id ?_); (first | ((refine condKT rfl ?hy ?_); (case hy => first | assumption | exact notT (by assumption) | exact rfl)) | ((refine condKF rfl ?hy ?_); (case hy => first | assumption | exact notF (by assumption) | exact rfl)) | (revert hF; (with_reducible refine condF ?hx ?_ ?_); (case hx => exact rfl); all_goals (intro hc hF))))
    | ((with_reducible refine seq_nil ?_); (first | ((with_reducible refine hR _ ?_); clear R hR) | ((with_reducible refine hL _ ?_); clear L hL)))
    | ((with_reducible first | refine int_step ?_ | refine len_step ?_ | refine idx2 (by assumption) ?_ | refine idx3 (by assumption) ?_); conv => whnf)
    | (with_reducible first | refine vc_block ?_ | refine vc_skip ?_ | refine vc_ret ?_ | refine vc_exit ?_ | refine vc_region (fun R hR => ?_) | refine k_seq_ret ?_ | refine k_seq_exit ?_ | refine k_blk ?_ | refine k_blk_ret ?_ | refine k_blk_here ?_ | refine k_loop_ret ?_ | refine k_loop_exit ?_)
    | ((with_reducible refine vc_seqN [9] ?hx ?_); (case hx => exact rfl))
    | ((with_reducible refine seq_id' ?_); (with_reducible replace hF := chkJ (f := f25_c9) hF); revert hF; (refine Lp.cut0 Lf25_c9 f25_c9 9 rfl rfl ?_ ?_); (intro hF); rotate_left; (rintro out7 hF; dsimp only [Lf25_c9] at hF; unfold f25_c9 at hF); rotate_right)
    | ((with_reducible refine head_id ?_); (with_reducible replace hF := chkE (e := f25_c9 ..) hF); exact Lp.head Ef25_c9 hF () ⟨_, rfl, rfl, rfl, rfl⟩ rfl)
    | ((with_reducible refine loop_id ?_); (with_reducible replace hF := chkE (e := f25_5 ..) hF); revert hF; (refine Lp.loop Ef25_5 () rfl ⟨_, rfl, rfl, rfl, rfl⟩ rfl (fun _ => rfl) ?_); rintro n ⟨out7, v15⟩ hF; dsimp only [Lf25_5, f25_5] at hF; unfold f25_5b at hF)
    | ((with_reducible refine back_id ?_); (with_reducible replace hF := chkE (e := f25_5 ..) hF); exact Lp.back Ef25_5 hF () ⟨_, rfl, rfl, rfl, rfl⟩ rfl)
    | (revert hF; (with_reducible refine G26.step ?hx ?_); (case hx => exact rfl); intro v hF; conv => whnf)
    | (revert hF; (with_reducible refine G48.lend ?hx ?_); (case hx => exact rfl); intro v hF; conv => whnf)
    | (revert hF; (with_reducible refine G80.lend ?hx ?_); (case hx => exact rfl); intro v hF; conv => whnf)
    | ((rename I56 => xi); cases xi <;> (dsimp only at hF; (try (conv => whnf))))
    | ((with_reducible first | refine k_blk_out ?hx ?_ | refine vc_condT ?hx ?_); (case hx => exact rfl))
    | (revert hF; (with_reducible refine idx1 ?hn ?_); (case hn => first | exact rfl | exact (List.length_map _) | assumption | omega | simp); intro x hx hF; conv => whnf)
    | ((refine row_all ?hn ?_); (case hn => first | exact rfl | (simp; done) | (simp; omega)); conv => whnf)
    | ((with_reducible refine le_step ?hn ?_); (case hn => first | exact rfl | assumption | omega); conv => whnf)
    | ((refine ⟨?hx, ?_⟩); (case hx => exact ⟨rfl, Nat.le_of_ble_eq_true rfl, rfl⟩); conv => whnf)
    | ((with_reducible refine ex_step ?_); conv => whnf)
    | ((with_reducible have hG := chk_fact hF); clear hF; (refine ⟨?hx, ?_⟩); (case hx => (first | exact of_decide_eq_true hG.1 | exact hG.1)); have hF := hG.2; clear hG; conv => whnf)
    | ((with_reducible refine both_T ?hx ?_); (case hx => first | exact rfl | assumption | exact notT (by assumption)); conv => whnf)
    | ((with_reducible refine both_F ?hx ?_); (case hx => first | exact rfl | assumption | exact notF (by assumption)); conv => whnf)
    | (revert hF; (with_reducible refine ite_step ?_ ?_) <;> (intro hc hF; conv => whnf))
    | ((with_reducible refine vc_condF ?hx ?_); (case hx => exact rfl))
    | (show retD _ _ _ _ _ _; conv => whnf)
    | ((refine ⟨?hx, trivial⟩); (case hx => (cases hF; exact rfl)))
    | ((refine ⟨?hx, ?_⟩); (case hx => decide); conv => whnf)
    | with_reducible refine k_seq ?_
    | (have hF : (none : Option _) = some _ := hF; cases hF))
end
end Go.Vc
namespace Go.Vc
open Go.Proofs
set_option linter.unusedVariables false
set_option linter.unnecessarySimpa false
set_option linter.unusedSimpArgs false
section
variable {c : Ctx} {p nid : Nat} {a b : Code} {st : St} {K : Ex → St → Prop}
def f10_c12 (N : Nat) (s5 : Int) : Option ((List Int) × Int) :=
 (f26 N s5).bind fun x2 =>
 some (x2, (0 : Int))
def Lf10_c12 (N : Nat) : Lp (Int) Unit ((List Int) × Int) := lp0 ⟨[5], [], [], []⟩ (fun s5 => [.dat (u8N s5)]) (fun _ => []) (fun s5 => f10_c12 N s5)
theorem Ef10_c12 {N s5} : (Lf10_c12 N).E s5 = f10_c12 N s5 := rfl
def f10_8b (r8 : Int → Int → Option ((List Int) × Int)) (a0 : Palette) (N : Nat) (s5 : Int) (r5 : Int → Int → Option ((List Int) × Int)) (s5' : Int) (v20 : Int) : Option ((List Int) × Int) :=
 bif decide (v20 < (List.length a0.Inks : Int)) then ((f19 N a0 v20).bind fun x3 =>
 match x3 with
 | .nil => none
 | .c81 x4 => ((f25 N (s5') (I56.c81 x4)).bind fun x5 =>
 r8 x5 (W (v20 + (1 : Int))))
 | .c82 x6 => ((f25 N (s5') (I56.c82 x6)).bind fun x7 =>
 r8 x7 (W (v20 + (1 : Int)))))
 else (r5 (s5') s5)
def f10_8 (a0 : Palette) (N : Nat) (s5 : Int) (r5 : Int → Int → Option ((List Int) × Int)) : Nat → Int → Int → Option ((List Int) × Int)
  | 0, _, _ => none
  | n + 1, s5', v20 => f10_8b (f10_8 a0 N s5 r5 n) a0 N s5 r5 s5' v20
def Lf10_8 (a0 : Palette) (N : Nat) (s5 : Int) (r5 : Int → Int → Option ((List Int) × Int)) : Lp (Nat × Int × Int) Unit ((List Int) × Int) := lp0 ⟨[1, 5, 6, 19, 20], [0], [], []⟩ (fun (_, s5', v20) => [.ptr 0 0, .dat (u8N (s5')), .dat (u8N s5), .dat (iN (List.length a0.Inks : Int)), .dat (iN v20)]) (fun (_, _, _) => [.box [.dat (iN a0.Colours), .dat (sl_sl_iN a0.Inks)]]) (fun (n, s5', v20) => f10_8 a0 N s5 r5 n s5' v20)
theorem Ef10_8 {a0 N s5 r5 n s5' v20} : (Lf10_8 a0 N s5 r5).E (n, s5', v20) = f10_8 a0 N s5 r5 n s5' v20 := rfl
def f10_5b (r5 : Int → Int → Option ((List Int) × Int)) (a0 : Palette) (N : Nat) (k0 : Int → Option ((List Int) × Int)) (s5 : Int) (last6 : Int) : Option ((List Int) × Int) :=
 bif decide (¬ s5 = last6) then (f10_8 a0 N s5 r5 N s5 (0 : Int))
 else (k0 s5)
def f10_5 (a0 : Palette) (N : Nat) (k0 : Int → Option ((List Int) × Int)) : Nat → Int → Int → Option ((List Int) × Int)
  | 0, _, _ => none
  | n + 1, s5, last6 => f10_5b (f10_5 a0 N k0 n) a0 N k0 s5 last6
def Lf10_5 (a0 : Palette) (N : Nat) (k0 : Int → Option ((List Int) × Int)) : Lp (Nat × Int × Int) Unit ((List Int) × Int) := lp0 ⟨[1, 5, 6], [0], [], []⟩ (fun (_, s5, last6) => [.ptr 0 0, .dat (u8N s5), .dat (u8N last6)]) (fun (_, _, _) => [.box [.dat (iN a0.Colours), .dat (sl_sl_iN a0.Inks)]]) (fun (n, s5, last6) => f10_5 a0 N k0 n s5 last6)
theorem Ef10_5 {a0 N k0 n s5 last6} : (Lf10_5 a0 N k0).E (n, s5, last6) = f10_5 a0 N k0 n s5 last6 := rfl
def f10 (N : Nat) (a0 : Palette) : Option ((List Int) × Int) :=
 (f24 N a0).bind fun x1 =>
 bif decide (¬ x1 = (0 : Int)) then (some ([], x1))
 else (joinK (f10_c12 N) fun k0 =>
 f10_5 a0 N k0 N (1 : Int) (0 : Int))
def G10 (ds : List D) (d : D) : Prop := ∃ (N : Nat) (a0 : Palette) (r : (List Int) × Int), ds = [Palette.d a0] ∧ f10 N a0 = some r ∧ d = .tup [sl_iN r.1, iN r.2]
theorem G10.step {N : Nat} {a0 : Palette} {ρ : Type} {A : ((List Int) × Int) → Option ρ} {q : ρ} {ds : List D} {K : D → Prop} (hd : ds = [Palette.d a0]) (h : ∀ r, A r = some q → K (.tup [sl_iN r.1, iN r.2])) (hF : (f10 N a0).bind A = some q) : ∃ d, G10 ds d ∧ K d := by
  obtain ⟨r, hr, hA⟩ := bind_some hF
  exact ⟨_, ⟨N, a0, r, hd, hr, rfl⟩, h r hA⟩
set_option maxRecDepth 20000 in
set_option maxHeartbeats 4000000 in
theorem P10 : PureOK Try.prog 10 G10 := by
  refine pure_of_vc (c := mkCtx tyTree [(26, true, purePg [[0]] G26), (25, true, lendPg [[0], [0]] G25), (24, true, lendPg [[0, 1]] G24), (19, true, purePg [[0, 1], [0]] G19)]) rfl tyOK (ctx_cons (callable Try.func26 rfl rfl) P26 (ctx_lend (callable Try.func25 rfl rfl) P25 (ctx_lend (callable Try.func24 rfl rfl) P24 (ctx_cons (callable Try.func19 rfl rfl) P19 (ctx_nil))))) [[1], [0]] 1 Try.func10 rfl rfl (by decide) (by kernel_rfl) ?_
  rintro ds d ⟨N, a0, r, rfl, hF, rfl⟩ hok
  clear hok
  refine ⟨rfl, ?_⟩
  show vc _ _ _ _ ⟨[(0, .dat (Palette.d a0))], []⟩ _
  unfold f10 at hF
  repeat' (first
    | ((with_reducible first | refine q0 _ _ ?_ | refine q1 _ _ _ _ ?_ | refine q2 _ _ _ ?_); clear Q q0 q1 q2)
    | ((with_reducible first | refine seq_op ?hx (fun Q q0 q1 q2 => ?_)); (case hx => exact rfl); conv => whnf)
    | ((with_reducible refine cond_id ?_); (first | ((refine condKT rfl ?hy ?_); (case hy => first | assumption | exact notT (by assumption) | exact rfl)) | ((refine condKF rfl ?hy ?_); (case hy => first | assumption | exact notF (by assumption) | exact rfl)) | (revert hF; (with_reducible refine condF ?hx ?_ ?_); (case hx => exact rfl); all_goals (intro hc hF))))
    | ((with_reducible refine seq_nil ?_); (first | ((with_reducible refine hR _ ?_); clear R hR) | ((with_reducible refine hL _ ?_); clear L hL)))
    | ((with_reducible first | refine int_step ?_ | refine len_step ?_); conv => whnf)
    | (with_reducible first | refine vc_block ?_ | refine vc_skip ?_ | refine vc_ret ?_ | refine vc_exit ?_ | refine vc_region (fun R hR => ?_) | refine k_seq_ret ?_ | refine k_seq_exit ?_ | refine k_blk ?_ | refine k_blk_ret ?_ | refine k_blk_here ?_ | refine k_loop_ret ?_ | refine k_loop_exit ?_)
    | ((with_reducible refine vc_seqN [12] ?hx ?_); (case hx => exact rfl))
    | ((with_reducible refine seq_id' ?_); (with_reducible replace hF := chkJ (f := f10_c12 _) hF); revert hF; (refine Lp.cut1 Lf10_c12 f10_c12 12 rfl rfl ?_ ?_); (intro hF); rotate_left; (rintro s5 hF; dsimp only [Lf10_c12] at hF; unfold f10_c12 at hF); rotate_right)
    | ((with_reducible refine head_id ?_); (with_reducible replace hF := chkE (e := f10_c12 ..) hF); exact Lp.head Ef10_c12 hF () ⟨_, rfl, rfl, rfl, rfl⟩ rfl)
    | ((with_reducible refine loop_id ?_); (with_reducible replace hF := chkE (e := f10_8 ..) hF); revert hF; (refine Lp.loop Ef10_8 () rfl ⟨_, rfl, rfl, rfl, rfl⟩ rfl (fun _ => rfl) ?_); rintro n ⟨s5', v20⟩ hF; dsimp only [Lf10_8, f10_8] at hF; unfold f10_8b at hF)
    | ((with_reducible refine back_id ?_); (with_reducible replace hF := chkE (e := f10_8 ..) hF); exact Lp.back Ef10_8 hF () ⟨_, rfl, rfl, rfl, rfl⟩ rfl)
    | ((with_reducible refine loop_id ?_); (with_reducible replace hF := chkE (e := f10_5 ..) hF); revert hF; (refine Lp.loop Ef10_5 () rfl ⟨_, rfl, rfl, rfl, rfl⟩ rfl (fun _ => rfl) ?_); rintro n ⟨s5, last6⟩ hF; dsimp only [Lf10_5, f10_5] at hF; unfold f10_5b at hF)
    | ((with_reducible refine back_id ?_); (with_reducible replace hF := chkE (e := f10_5 ..) hF); exact Lp.back Ef10_5 hF () ⟨_, rfl, rfl, rfl, rfl⟩ rfl)
    | (revert hF; (with_reducible refine G19.step ?hx ?_); (case hx => exact rfl); intro v hF; conv => whnf)
    | (revert hF; (with_reducible refine G24.lend ?hx ?_); (case hx => exact rfl); intro v hF; conv => whnf)
    | (revert hF; (with_reducible refine G25.lend ?hx ?_); (case hx => exact rfl); intro v hF; conv => whnf)
    | (revert hF; (with_reducible refine G26.step ?hx ?_); (case hx => exact rfl); intro v hF; conv => whnf)
    | ((rename I56 => xi); cases xi <;> (dsimp only at hF; (try (conv => whnf))))
    | ((with_reducible first | refine k_blk_out ?hx ?_ | refine vc_condT ?hx ?_); (case hx => exact rfl))
    | ((refine row_all ?hn ?_); (case hn => first | exact rfl | (simp; done) | (simp; omega)); conv => whnf)
    | ((with_reducible refine le_step ?hn ?_); (case hn => first | exact rfl | assumption | omega); conv => whnf)
    | ((refine ⟨?hx, ?_⟩); (case hx => exact ⟨rfl, Nat.le_of_ble_eq_true rfl, rfl⟩); conv => whnf)
    | ((with_reducible refine ex_step ?_); conv => whnf)
    | ((with_reducible refine both_T ?hx ?_); (case hx => first | exact rfl | assumption | exact notT (by assumption)); conv => whnf)
    | ((with_reducible refine both_F ?hx ?_); (case hx => first | exact rfl | assumption | exact notF (by assumption)); conv => whnf)
    | (revert hF; (with_reducible refine ite_step ?_ ?_) <;> (intro hc hF; conv => whnf))
    | ((with_reducible refine vc_condF ?hx ?_); (case hx => exact rfl))
    | (show retD _ _ _ _ _ _; conv => whnf)
    | ((refine ⟨?hx, trivial⟩); (case hx => (cases hF; exact rfl)))
    | ((refine ⟨?hx, ?_⟩); (case hx => decide); conv => whnf)
    | with_reducible refine k_seq ?_
    | (have hF : (none : Option _) = some _ := hF; cases hF))
end
end Go.Vc
namespace Go.Vc
open Go.Proofs
set_option linter.unusedVariables false
set_option linter.unnecessarySimpa false
set_option linter.unusedSimpArgs false
section
variable {c : Ctx} {p nid : Nat} {a b : Code} {st : St} {K : Ex → St → Prop}
def f35_c15 (newslice6' : List Int) : Option ((List Int)) :=
 some (newslice6')
def Lf35_c15 : Lp ((List Int)) (Nat) ((List Int)) := ⟨⟨[6], [90006], [(.slot 6, 90006, 3, 1)], []⟩, fun newslice6' => [.rs 90006 (List.length (newslice6'))], fun newslice6' => [.row 3 1 (List.map iN (newslice6'))], fun newslice6' => f35_c15 newslice6', fun _ m0 => [.rs 90006 m0], fun newslice6' _ => [.row 3 1 (List.map iN (newslice6'))], fun newslice6' => List.length (newslice6'), fun _ => rfl, fun _ => rfl⟩
theorem Ef35_c15 {newslice6'} : (Lf35_c15).E newslice6' = f35_c15 newslice6' := rfl
def f35_11b (r11 : (List Int) → Int → Option ((List Int))) (a0 : List (List Int)) (k0 : (List Int) → Option ((List Int))) (newslice6' : List Int) (v27 : Int) : Option ((List Int)) :=
 bif decide (v27 < (List.length a0 : Int)) then ((ix a0 v27).bind fun x1 =>
 (app 8 (newslice6') x1).bind fun x2 =>
 r11 x2 (W (v27 + (1 : Int))))
 else (k0 (newslice6'))
def f35_11 (a0 : List (List Int)) (k0 : (List Int) → Option ((List Int))) : Nat → (List Int) → Int → Option ((List Int))
  | 0, _, _ => none
  | n + 1, newslice6', v27 => f35_11b (f35_11 a0 k0 n) a0 k0 newslice6' v27
def Lf35_11 (a0 : List (List Int)) (k0 : (List Int) → Option ((List Int))) : Lp (Nat × (List Int) × Int) (Nat) ((List Int)) := ⟨⟨[6, 25, 26, 27], [90006], [(.slot 6, 90006, 3, 1)], []⟩, fun (_, newslice6', v27) => [.rs 90006 (List.length (newslice6')), .dat (sl_sl_iN a0), .dat (iN (List.length a0 : Int)), .dat (iN v27)], fun (_, newslice6', _) => [.row 3 1 (List.map iN (newslice6'))], fun (n, newslice6', v27) => f35_11 a0 k0 n newslice6' v27, fun (_, _, v27) m0 => [.rs 90006 m0, .dat (sl_sl_iN a0), .dat (iN (List.length a0 : Int)), .dat (iN v27)], fun (_, newslice6', _) _ => [.row 3 1 (List.map iN (newslice6'))], fun (_, newslice6', _) => List.length (newslice6'), fun _ => rfl, fun _ => rfl⟩
theorem Ef35_11 {a0 k0 n newslice6' v27} : (Lf35_11 a0 k0).E (n, newslice6', v27) = f35_11 a0 k0 n newslice6' v27 := rfl
def f35_c10 (a0 : List (List Int)) (N : Nat) (newslice6 : List Int) : Option ((List Int)) :=
 joinK f35_c15 fun k0 =>
 f35_11 a0 k0 N newslice6 (0 : Int)
def Lf35_c10 (a0 : List (List Int)) (N : Nat) : Lp ((List Int)) (Nat) ((List Int)) := ⟨⟨[0, 6], [90006], [(.slot 6, 90006, 3, 1)], []⟩, fun newslice6 => [.dat (sl_sl_iN a0), .rs 90006 (List.length newslice6)], fun newslice6 => [.row 3 1 (List.map iN newslice6)], fun newslice6 => f35_c10 a0 N newslice6, fun _ m0 => [.dat (sl_sl_iN a0), .rs 90006 m0], fun newslice6 _ => [.row 3 1 (List.map iN newslice6)], fun newslice6 => List.length newslice6, fun _ => rfl, fun _ => rfl⟩
theorem Ef35_c10 {a0 N newslice6} : (Lf35_c10 a0 N).E newslice6 = f35_c10 a0 N newslice6 := rfl
def f35_c9 (a0 : List (List Int)) (N : Nat) (size3 : Int) : Option ((List Int)) :=
 joinK (f35_c10 a0 N) fun k1 =>
 bif decide (size3 < (0 : Int)) then none
 else (bif decide ((0 : Int) < (W (size3 - (W ((0 : Int) - (0 : Int)))))) then ((mkA 8 (0 : Int) (W (size3 - (W ((0 : Int) - (0 : Int)))))).bind fun x3 =>
 (subR x3 0 (0 : Int)).bind fun x4 =>
 k1 x4)
 else (k1 []))
def Lf35_c9 (a0 : List (List Int)) (N : Nat) : Lp (Int) Unit ((List Int)) := lp0 ⟨[0, 3], [], [], []⟩ (fun size3 => [.dat (sl_sl_iN a0), .dat (iN size3)]) (fun _ => []) (fun size3 => f35_c9 a0 N size3)
theorem Ef35_c9 {a0 N size3} : (Lf35_c9 a0 N).E size3 = f35_c9 a0 N size3 := rfl
def f35_3b (r3 : Int → Int → Option ((List Int))) (a0 : List (List Int)) (k2 : Int → Option ((List Int))) (size3 : Int) (v11 : Int) : Option ((List Int)) :=
 bif decide (v11 < (List.length a0 : Int)) then ((ix a0 v11).bind fun x5 =>
 bif decide ((W (size3 + (List.length x5 : Int))) < (0 : Int)) then none
 else (r3 (W (size3 + (List.length x5 : Int))) (W (v11 + (1 : Int)))))
 else (k2 size3)
def f35_3 (a0 : List (List Int)) (k2 : Int → Option ((List Int))) : Nat → Int → Int → Option ((List Int))
  | 0, _, _ => none
  | n + 1, size3, v11 => f35_3b (f35_3 a0 k2 n) a0 k2 size3 v11
def Lf35_3 (a0 : List (List Int)) (k2 : Int → Option ((List Int))) : Lp (Nat × Int × Int) Unit ((List Int)) := lp0 ⟨[0, 3, 9, 10, 11], [], [], []⟩ (fun (_, size3, v11) => [.dat (sl_sl_iN a0), .dat (iN size3), .dat (sl_sl_iN a0), .dat (iN (List.length a0 : Int)), .dat (iN v11)]) (fun (_, _, _) => []) (fun (n, size3, v11) => f35_3 a0 k2 n size3 v11)
theorem Ef35_3 {a0 k2 n size3 v11} : (Lf35_3 a0 k2).E (n, size3, v11) = f35_3 a0 k2 n size3 v11 := rfl
def f35 (N : Nat) (a0 : List (List Int)) : Option ((List Int)) :=
 joinK (f35_c9 a0 N) fun k2 =>
 f35_3 a0 k2 N (0 : Int) (0 : Int)
def G35 (ds : List D) (d : D) : Prop := ∃ (N : Nat) (a0 : List (List Int)) (r : (List Int)), ds = [sl_sl_iN a0] ∧ f35 N a0 = some r ∧ d = sl_iN r
theorem G35.step {N : Nat} {a0 : List (List Int)} {ρ : Type} {A : (List Int) → Option ρ} {q : ρ} {ds : List D} {K : D → Prop} (hd : ds = [sl_sl_iN a0]) (h : ∀ r, A r = some q → K (sl_iN r)) (hF : (f35 N a0).bind A = some q) : ∃ d, G35 ds d ∧ K d := by
  obtain ⟨r, hr, hA⟩ := bind_some hF
  exact ⟨_, ⟨N, a0, r, hd, hr, rfl⟩, h r hA⟩
set_option maxRecDepth 20000 in
set_option maxHeartbeats 4000000 in
theorem P35 : PureOK Try.prog 35 G35 := by
  refine pure_of_vc (c := mkCtx tyTree [(55, false, inlPg (mkCtx tyTree []) Try.f55)]) rfl tyOK (ctx_eff (callable Try.func55 rfl rfl) (CallOK.inl rfl tyOK (ctx_nil) Try.func55 (by kernel_rfl)) (ctx_nil)) [[1]] 1 Try.func35 rfl rfl (by decide) (by kernel_rfl) ?_
  rintro ds d ⟨N, a0, r, rfl, hF, rfl⟩ hok
  clear hok
  refine ⟨rfl, ?_⟩
  show vc _ _ _ _ ⟨[(0, .dat (sl_sl_iN a0))], []⟩ _
  unfold f35 at hF
  repeat' (first
    | ((with_reducible first | refine q0 _ _ ?_ | refine q1 _ _ _ _ ?_ | refine q2 _ _ _ ?_); clear Q q0 q1 q2)
    | ((with_reducible first | refine seq_op ?hx (fun Q q0 q1 q2 => ?_) | refine seq_op0 ?hx (fun Q q0 q1 q2 => ?_)); (case hx => exact rfl); conv => whnf)
    | ((with_reducible refine cond_id ?_); (first | ((refine condKT rfl ?hy ?_); (case hy => first | assumption | exact notT (by assumption) | exact rfl)) | ((refine condKF rfl ?hy ?_); (case hy => first | assumption | exact notF (by assumption) | exact rfl)) | (revert hF; (with_reducible refine condF ?hx ?_ ?_); (case hx => exact rfl); all_goals (intro hc hF))))
    | ((with_reducible refine seq_nil ?_); (first | ((with_reducible refine hR _ ?_); clear R hR) | ((with_reducible refine hL _ ?_); clear L hL)))
    | ((with_reducible first | refine int_step ?_ | refine len_step ?_ | refine idx2 (by assumption) ?_ | refine idx3 (by assumption) ?_); conv => whnf)
    | (with_reducible first | refine vc_block ?_ | refine vc_skip ?_ | refine vc_ret ?_ | refine vc_exit ?_ | refine vc_region (fun R hR => ?_) | refine k_seq_ret ?_ | refine k_seq_exit ?_ | refine k_blk ?_ | refine k_blk_ret ?_ | refine k_blk_here ?_ | refine k_loop_ret ?_ | refine k_loop_exit ?_)
    | ((with_reducible refine vc_seqN [15, 10, 9] ?hx ?_); (case hx => exact rfl))
    | ((with_reducible refine seq_id' ?_); (with_reducible replace hF := chkJ (f := f35_c15) hF); revert hF; (refine Lp.cut0 Lf35_c15 f35_c15 15 rfl rfl ?_ ?_); (intro hF); rotate_left; (rintro newslice6' hF; dsimp only [Lf35_c15] at hF; unfold f35_c15 at hF); rotate_right)
    | ((with_reducible refine head_id ?_); (with_reducible replace hF := chkE (e := f35_c15 ..) hF); exact Lp.head Ef35_c15 hF _ ⟨_, rfl, rfl, rfl, rfl⟩ (by first | exact rfl | ((try dsimp only [Lf35_c15]); first | assumption | omega | (simp only [List.length_set]; done))))
    | ((with_reducible refine loop_id ?_); (with_reducible replace hF := chkE (e := f35_11 ..) hF); revert hF; (refine Lp.loop Ef35_11 _ rfl ⟨_, rfl, rfl, rfl, rfl⟩ (by first | exact rfl | ((try dsimp only [Lf35_11]); first | assumption | omega | (simp only [List.length_set]; done))) (fun _ => rfl) ?_); rintro n ⟨newslice6', v27⟩ hF; dsimp only [Lf35_11, f35_11] at hF; unfold f35_11b at hF)
    | ((with_reducible refine back_id ?_); (with_reducible replace hF := chkE (e := f35_11 ..) hF); exact Lp.back Ef35_11 hF _ ⟨_, rfl, rfl, rfl, rfl⟩ (by first | exact rfl | ((try dsimp only [Lf35_11]); first | assumption | omega | (simp only [List.length_set]; done))))
    | ((with_reducible refine seq_id' ?_); (with_reducible replace hF := chkJ (f := f35_c10 _ _) hF); revert hF; (refine Lp.cut2 Lf35_c10 f35_c10 10 rfl rfl ?_ ?_); (intro hF); rotate_left; (rintro newslice6 hF; dsimp only [Lf35_c10] at hF; unfold f35_c10 at hF); rotate_right)
    | ((with_reducible refine head_id ?_); (with_reducible replace hF := chkE (e := f35_c10 ..) hF); exact Lp.head Ef35_c10 hF _ ⟨_, rfl, rfl, rfl, rfl⟩ (by first | exact rfl | ((try dsimp only [Lf35_c10]); first | assumption | omega | (simp only [List.length_set]; done))))
    | ((with_reducible refine seq_id' ?_); (with_reducible replace hF := chkJ (f := f35_c9 _ _) hF); revert hF; (refine Lp.cut2 Lf35_c9 f35_c9 9 rfl rfl ?_ ?_); (intro hF); rotate_left; (rintro size3 hF; dsimp only [Lf35_c9] at hF; unfold f35_c9 at hF); rotate_right)
    | ((with_reducible refine head_id ?_); (with_reducible replace hF := chkE (e := f35_c9 ..) hF); exact Lp.head Ef35_c9 hF () ⟨_, rfl, rfl, rfl, rfl⟩ rfl)
    | ((with_reducible refine loop_id ?_); (with_reducible replace hF := chkE (e := f35_3 ..) hF); revert hF; (refine Lp.loop Ef35_3 () rfl ⟨_, rfl, rfl, rfl, rfl⟩ rfl (fun _ => rfl) ?_); rintro n ⟨size3, v11⟩ hF; dsimp only [Lf35_3, f35_3] at hF; unfold f35_3b at hF)
    | ((with_reducible refine back_id ?_); (with_reducible replace hF := chkE (e := f35_3 ..) hF); exact Lp.back Ef35_3 hF () ⟨_, rfl, rfl, rfl, rfl⟩ rfl)
    | (revert hF; (refine mkS_row (d := iN) ?hz ?_); (case hz => exact rfl); intro x hF; conv => whnf)
    | (revert hF; (refine mkA_row (d := iN) ?hz ?_); (case hz => exact rfl); intro x hF; conv => whnf)
    | ((with_reducible first | refine k_blk_out ?hx ?_ | refine vc_condT ?hx ?_); (case hx => exact rfl))
    | (revert hF; (with_reducible refine idx1 ?hn ?_); (case hn => first | exact rfl | exact (List.length_map _) | assumption | omega | simp); intro x hx hF; conv => whnf)
    | ((with_reducible have hG := subR_fact hF); clear hF; (refine Or.inl (Or.inl ?_)); (conv => whnf); (refine subrow_step hG ?hn (fun q hF => ?_); (case hn => first | exact rfl | assumption | omega)); clear hG; conv => whnf)
    | ((with_reducible have hG := app_fact hF); clear hF; (first | ((refine app_row hG ?hn ?hs (fun q hF => ?_)); (case hn => first | exact rfl | assumption | omega); (case hs => exact rfl)) | ((refine app_nil (d := iN) hG ?hs (fun q hF => ?_)); (case hs => exact rfl)) | ((refine app_gen (d := iN) hG ?ho ?hn ?hs (fun q hF => ?_)); (case ho => exact rfl); (case hn => exact rfl); (case hs => exact rfl))); clear hG; conv => whnf)
    | ((refine row_all ?hn ?_); (case hn => first | exact rfl | (simp; done) | (simp; omega)); conv => whnf)
    | ((with_reducible refine le_step ?hn ?_); (case hn => first | exact rfl | assumption | omega); conv => whnf)
    | ((refine ⟨?hx, ?_⟩); (case hx => exact ⟨rfl, Nat.le_of_ble_eq_true rfl, rfl⟩); conv => whnf)
    | ((with_reducible refine ex_step ?_); conv => whnf)
    | ((with_reducible refine both_T ?hx ?_); (case hx => first | exact rfl | assumption | exact notT (by assumption)); conv => whnf)
    | ((with_reducible refine both_F ?hx ?_); (case hx => first | exact rfl | assumption | exact notF (by assumption)); conv => whnf)
    | (revert hF; (with_reducible refine ite_step ?_ ?_) <;> (intro hc hF; conv => whnf))
    | ((with_reducible refine vc_condF ?hx ?_); (case hx => exact rfl))
    | (show retD _ _ _ _ _ _; conv => whnf)
    | ((refine inl_step ?ha ?hb ?hc rfl ?_); (case ha => exact rfl); (case hb => omega); (case hc => exact Nat.le_of_ble_eq_true rfl))
    | (show Kinl _ _ _ _ _ _ _; conv => whnf)
    | ((with_reducible refine kinl_step ?ha ?hb ?_); (case ha => exact rfl); (case hb => exact rfl); conv => whnf)
    | ((refine ⟨?hx, trivial⟩); (case hx => (cases hF; exact rfl)))
    | ((refine ⟨?hx, ?_⟩); (case hx => decide); conv => whnf)
    | with_reducible refine k_seq ?_
    | (have hF : (none : Option _) = some _ := hF; cases hF))
end
end Go.Vc
namespace Go.Vc
open Go.Proofs
set_option linter.unusedVariables false
set_option linter.unnecessarySimpa false
set_option linter.unusedSimpArgs false
section
variable {c : Ctx} {p nid : Nat} {a b : Code} {st : St} {K : Ex → St → Prop}
def f44 (N : Nat) (a0 : Int) (a1 : Int) (a2 : Int) : Option (Bool) :=
 bif decide (a0 ≤ a1) then (some (decide (a1 ≤ a2)))
 else (some (false))
def G44 (ds : List D) (d : D) : Prop := ∃ (N : Nat) (a0 : Int) (a1 : Int) (a2 : Int) (r : Bool), ds = [iN a0, iN a1, iN a2] ∧ f44 N a0 a1 a2 = some r ∧ d = bN r
theorem G44.lend {N : Nat} {a0 : Int} {a1 : Int} {a2 : Int} {ρ : Type} {A : Bool → Option ρ} {q : ρ} {ds : List D} {K : D → Prop} (hd : ds = [iN a0, iN a1, iN a2]) (h : ∀ r, A r = some q → K (bN r)) (hF : (f44 N a0 a1 a2).bind A = some q) : ∃ d, (G44 ds d ∧ d.flatB = true) ∧ K d := by
  obtain ⟨r, hr, hA⟩ := bind_some hF
  exact ⟨_, ⟨⟨N, a0, a1, a2, r, hd, hr, rfl⟩, rfl⟩, h r hA⟩
set_option maxRecDepth 20000 in
set_option maxHeartbeats 4000000 in
theorem P44 : PureOK Try.prog 44 G44 := by
  refine pure_of_vc (c := mkCtx tyTree []) rfl tyOK (ctx_nil) [[0]] 3 Try.func44 rfl rfl (by decide) (by kernel_rfl) ?_
  rintro ds d ⟨N, a0, a1, a2, r, rfl, hF, rfl⟩ hok
  clear hok
  refine ⟨rfl, ?_⟩
  show vc _ _ _ _ ⟨[(0, .dat (iN a0)), (1, .dat (iN a1)), (2, .dat (iN a2))], []⟩ _
  unfold f44 at hF
  repeat' (first
    | ((with_reducible first | refine q0 _ _ ?_ | refine q1 _ _ _ _ ?_ | refine q2 _ _ _ ?_); clear Q q0 q1 q2)
    | ((with_reducible first | refine seq_op ?hx (fun Q q0 q1 q2 => ?_)); (case hx => exact rfl); conv => whnf)
    | ((with_reducible first | refine seq_off ?hx ?_ | refine seq_off0 ?hx ?_); (case hx => exact rfl))
    | ((with_reducible refine seq_id ?_); (first | ((first | refine seq_opK rfl ?hy (fun Q q0 q1 q2 => ?_) | refine seq_opK0 rfl ?hy (fun Q q0 q1 q2 => ?_)); (case hy => first | assumption | exact notT (by assumption) | exact rfl); conv => whnf) | ((first | refine seq_offK rfl ?hy ?_ | refine seq_offK0 rfl ?hy ?_); (case hy => first | assumption | exact notF (by assumption) | exact rfl)) | (revert hF; (with_reducible first | refine seq_opF ?hx ?_ ?_ | refine seq_opF0 ?hx ?_ ?_); (case hx => exact rfl); (intro hc hF Q q0 q1 q2; conv => whnf); rotate_left; (intro hc hF); rotate_right) | (revert hF; (with_reducible first | refine seq_opN ?hx ?_ ?_ | refine seq_opN0 ?hx ?_ ?_); (case hx => exact rfl); (intro hc hF); rotate_left; (intro hc hF Q q0 q1 q2; conv => whnf); rotate_right)))
    | ((with_reducible refine seq_nil ?_); (first | ((with_reducible refine hR _ ?_); clear R hR) | ((with_reducible refine hL _ ?_); clear L hL)))
    | ((with_reducible first | refine int_step ?_); conv => whnf)
    | (with_reducible first | refine vc_skip ?_ | refine vc_ret ?_ | refine vc_region (fun R hR => ?_) | refine k_seq_ret ?_)
    | ((with_reducible refine vc_seqN [] ?hx ?_); (case hx => exact rfl))
    | ((refine row_all ?hn ?_); (case hn => first | exact rfl | (simp; done) | (simp; omega)); conv => whnf)
    | ((with_reducible refine le_step ?hn ?_); (case hn => first | exact rfl | assumption | omega); conv => whnf)
    | ((refine ⟨?hx, ?_⟩); (case hx => exact ⟨rfl, Nat.le_of_ble_eq_true rfl, rfl⟩); conv => whnf)
    | ((with_reducible refine ex_step ?_); conv => whnf)
    | ((with_reducible refine both_T ?hx ?_); (case hx => first | exact rfl | assumption | exact notT (by assumption)); conv => whnf)
    | ((with_reducible refine both_F ?hx ?_); (case hx => first | exact rfl | assumption | exact notF (by assumption)); conv => whnf)
    | (revert hF; (with_reducible refine ite_step ?_ ?_) <;> (intro hc hF; conv => whnf))
    | (show retD _ _ _ _ _ _; conv => whnf)
    | ((refine ⟨?hx, trivial⟩); (case hx => (cases hF; exact rfl)))
    | ((refine ⟨?hx, ?_⟩); (case hx => decide); conv => whnf)
    | with_reducible refine k_seq ?_
    | (have hF : (none : Option _) = some _ := hF; cases hF))
end
end Go.Vc
namespace Go.Vc
open Go.Proofs
set_option linter.unusedVariables false
set_option linter.unnecessarySimpa false
set_option linter.unusedSimpArgs false
section
variable {c : Ctx} {p nid : Nat} {a b : Code} {st : St} {K : Ex → St → Prop}
def f60_c15 (twice3 : Bool) : Option (Bool) :=
 some (twice3)
def Lf60_c15 : Lp (Bool) Unit (Bool) := lp0 ⟨[3], [], [], []⟩ (fun twice3 => [.kb twice3]) (fun _ => []) (fun twice3 => f60_c15 twice3)
theorem Ef60_c15 {twice3} : (Lf60_c15).E twice3 = f60_c15 twice3 := rfl
def f60_c14 (a0 : List (List Int)) (v12 : Int) (r3 : Bool → Int → Option (Bool)) (twice3' : Bool) : Option (Bool) :=
 r3 (twice3') (W (v12 + (1 : Int)))
def Lf60_c14 (a0 : List (List Int)) (v12 : Int) (r3 : Bool → Int → Option (Bool)) : Lp (Bool) Unit (Bool) := lp0 ⟨[0, 3, 11, 12], [], [], []⟩ (fun twice3' => [.dat (sl_sl_iN a0), .kb (twice3'), .dat (iN (List.length a0 : Int)), .dat (iN v12)]) (fun _ => []) (fun twice3' => f60_c14 a0 v12 r3 twice3')
theorem Ef60_c14 {a0 v12 r3 twice3'} : (Lf60_c14 a0 v12 r3).E twice3' = f60_c14 a0 v12 r3 twice3' := rfl
def f60_7b (r7 : Bool → Int → (List Bool) → (List Bool) → Option (Bool)) (a0 : List (List Int)) (k0 : Bool → Option (Bool)) (v12 : Int) (k1 : Bool → Option (Bool)) (twice3' : Bool) (v17 : Int) (b500 : List Bool) (b501 : List Bool) : Option (Bool) :=
 bif decide (v17 < (List.length a0 : Int)) then ((ix a0 v12).bind fun x1 =>
 (ix x1 v17).bind fun x2 =>
 (ix a0 v17).bind fun x3 =>
 (ix x3 v12).bind fun x4 =>
 (chkI 10 x2).bind fun _ =>
 (ixN b500 (Int.toNat x2)).bind fun x5 =>
 bif x5 then (k0 true)
 else ((chkI 10 x4).bind fun _ =>
 (ixN b501 (Int.toNat x4)).bind fun x6 =>
 bif x6 then (k0 true)
 else ((chkI 10 x2).bind fun _ =>
 (setN b500 (Int.toNat x2) true).bind fun x7 =>
 (chkI 10 x4).bind fun _ =>
 (setN b501 (Int.toNat x4) true).bind fun x8 =>
 r7 (twice3') (W (v17 + (1 : Int))) x7 x8)))
 else (k1 (twice3'))
def f60_7 (a0 : List (List Int)) (k0 : Bool → Option (Bool)) (v12 : Int) (k1 : Bool → Option (Bool)) : Nat → Bool → Int → (List Bool) → (List Bool) → Option (Bool)
  | 0, _, _, _, _ => none
  | n + 1, twice3', v17, b500, b501 => f60_7b (f60_7 a0 k0 v12 k1 n) a0 k0 v12 k1 twice3' v17 b500 b501
def Lf60_7 (a0 : List (List Int)) (k0 : Bool → Option (Bool)) (v12 : Int) (k1 : Bool → Option (Bool)) : Lp (Nat × Bool × Int × (List Bool) × (List Bool)) Unit (Bool) := lp0 ⟨[0, 3, 4, 5, 6, 11, 12, 16, 17], [500, 501], [], []⟩ (fun (_, twice3', v17, _, _) => [.dat (sl_sl_iN a0), .kb (twice3'), .dat (iN v12), .ptr 500 0, .ptr 501 0, .dat (iN (List.length a0 : Int)), .dat (iN v12), .dat (iN (List.length a0 : Int)), .dat (iN v17)]) (fun (_, _, _, b500, b501) => [.arr (List.map bN b500), .arr (List.map bN b501)]) (fun (n, twice3', v17, b500, b501) => f60_7 a0 k0 v12 k1 n twice3' v17 b500 b501)
theorem Ef60_7 {a0 k0 v12 k1 n twice3' v17 b500 b501} : (Lf60_7 a0 k0 v12 k1).E (n, twice3', v17, b500, b501) = f60_7 a0 k0 v12 k1 n twice3' v17 b500 b501 := rfl
def f60_3b (r3 : Bool → Int → Option (Bool)) (a0 : List (List Int)) (N : Nat) (k0 : Bool → Option (Bool)) (twice3 : Bool) (v12 : Int) : Option (Bool) :=
 bif decide (v12 < (List.length a0 : Int)) then (joinK (f60_c14 a0 v12 r3) fun k1 =>
 f60_7 a0 k0 v12 k1 N twice3 (0 : Int) (List.replicate 10 false) (List.replicate 10 false))
 else (k0 twice3)
def f60_3 (a0 : List (List Int)) (N : Nat) (k0 : Bool → Option (Bool)) : Nat → Bool → Int → Option (Bool)
  | 0, _, _ => none
  | n + 1, twice3, v12 => f60_3b (f60_3 a0 N k0 n) a0 N k0 twice3 v12
def Lf60_3 (a0 : List (List Int)) (N : Nat) (k0 : Bool → Option (Bool)) : Lp (Nat × Bool × Int) Unit (Bool) := lp0 ⟨[0, 3, 11, 12], [], [], []⟩ (fun (_, twice3, v12) => [.dat (sl_sl_iN a0), .kb twice3, .dat (iN (List.length a0 : Int)), .dat (iN v12)]) (fun (_, _, _) => []) (fun (n, twice3, v12) => f60_3 a0 N k0 n twice3 v12)
theorem Ef60_3 {a0 N k0 n twice3 v12} : (Lf60_3 a0 N k0).E (n, twice3, v12) = f60_3 a0 N k0 n twice3 v12 := rfl
def f60 (N : Nat) (a0 : List (List Int)) : Option (Bool) :=
 joinK f60_c15 fun k0 =>
 f60_3 a0 N k0 N false (0 : Int)
def G60 (ds : List D) (d : D) : Prop := ∃ (N : Nat) (a0 : List (List Int)) (r : Bool), ds = [sl_sl_iN a0] ∧ f60 N a0 = some r ∧ d = bN r
theorem G60.lend {N : Nat} {a0 : List (List Int)} {ρ : Type} {A : Bool → Option ρ} {q : ρ} {ds : List D} {K : D → Prop} (hd : ds = [sl_sl_iN a0]) (h : ∀ r, A r = some q → K (bN r)) (hF : (f60 N a0).bind A = some q) : ∃ d, (G60 ds d ∧ d.flatB = true) ∧ K d := by
  obtain ⟨r, hr, hA⟩ := bind_some hF
  exact ⟨_, ⟨⟨N, a0, r, hd, hr, rfl⟩, rfl⟩, h r hA⟩
set_option maxRecDepth 20000 in
set_option maxHeartbeats 4000000 in
theorem P60 : PureOK Try.prog 60 G60 := by
  refine pure_of_vc (c := mkCtx tyTree []) rfl tyOK (ctx_nil) [[0]] 1 Try.func60 rfl rfl (by decide) (by kernel_rfl) ?_
  rintro ds d ⟨N, a0, r, rfl, hF, rfl⟩ hok
  clear hok
  refine ⟨rfl, ?_⟩
  show vc _ _ _ _ ⟨[(0, .dat (sl_sl_iN a0))], []⟩ _
  unfold f60 at hF
  repeat' (first
    | ((with_reducible first | refine q0 _ _ ?_ | refine q1 _ _ _ _ ?_ | refine q2 _ _ _ ?_); clear Q q0 q1 q2)
    | ((with_reducible first | refine seq_op ?hx (fun Q q0 q1 q2 => ?_) | refine draw_op ?hx (fun Q q0 q1 q2 => ?_) | refine seq_op0 ?hx (fun Q q0 q1 q2 => ?_) | refine draw_op0 ?hx (fun Q q0 q1 q2 => ?_)); (case hx => exact rfl); conv => whnf)
    | ((with_reducible first | refine seq_off ?hx ?_ | refine seq_off0 ?hx ?_ | refine draw_off ?hx ?_ | refine draw_off0 ?hx ?_ | refine k_blk_out ?hx ?_ | refine vc_condT ?hx ?_); (case hx => exact rfl))
    | ((with_reducible refine seq_id ?_); (first | ((first | refine seq_opK rfl ?hy (fun Q q0 q1 q2 => ?_) | refine seq_opK0 rfl ?hy (fun Q q0 q1 q2 => ?_)); (case hy => first | assumption | exact notT (by assumption) | exact rfl); conv => whnf) | ((first | refine seq_offK rfl ?hy ?_ | refine seq_offK0 rfl ?hy ?_); (case hy => first | assumption | exact notF (by assumption) | exact rfl)) | (revert hF; (with_reducible first | refine seq_opF ?hx ?_ ?_ | refine seq_opF0 ?hx ?_ ?_); (case hx => exact rfl); (intro hc hF Q q0 q1 q2; conv => whnf); rotate_left; (intro hc hF); rotate_right) | (revert hF; (with_reducible first | refine seq_opN ?hx ?_ ?_ | refine seq_opN0 ?hx ?_ ?_); (case hx => exact rfl); (intro hc hF); rotate_left; (intro hc hF Q q0 q1 q2; conv => whnf); rotate_right)))
    | ((with_reducible refine cond_id ?_); (first | ((refine condKT rfl ?hy ?_); (case hy => first | assumption | exact notT (by assumption) | exact rfl)) | ((refine condKF rfl ?hy ?_); (case hy => first | assumption | exact notF (by assumption) | exact rfl)) | (revert hF; (with_reducible refine condF ?hx ?_ ?_); (case hx => exact rfl); all_goals (intro hc hF))))
    | ((with_reducible refine seq_nil ?_); (first | ((with_reducible refine hR _ ?_); clear R hR) | ((with_reducible refine hL _ ?_); clear L hL)))
    | ((with_reducible refine draw_nil ?_); (with_reducible refine hR _ _ ?hx ?_); (case hx => kernel_rfl); (first | clear R hR | clear hR))
    | ((with_reducible first | refine int_step ?_ | refine len_step ?_ | refine idx2 (by assumption) ?_ | refine idx3 (by assumption) ?_); conv => whnf)
    | (with_reducible first | refine vc_block ?_ | refine vc_skip ?_ | refine vc_scope ?_ | refine vc_label ?_ | refine vc_ret ?_ | refine vc_exit ?_ | refine vc_region (fun R hR => ?_) | refine k_seq_ret ?_ | refine k_seq_exit ?_ | refine k_blk ?_ | refine k_blk_ret ?_ | refine k_blk_here ?_ | refine k_loop_ret ?_ | refine k_loop_exit ?_)
    | ((with_reducible refine vc_seqN [15, 14] ?hx ?_); (case hx => exact rfl))
    | ((with_reducible refine vc_draw ?hx (fun R hR => ?_)); (case hx => exact rfl))
    | ((with_reducible refine seq_id' ?_); (with_reducible replace hF := chkJ (f := f60_c15) hF); revert hF; (refine Lp.cut0 Lf60_c15 f60_c15 15 rfl rfl ?_ ?_); (intro hF); rotate_left; (rintro twice3 hF; dsimp only [Lf60_c15] at hF; unfold f60_c15 at hF); rotate_right)
    | ((with_reducible refine head_id ?_); (with_reducible replace hF := chkE (e := f60_c15 ..) hF); exact Lp.head Ef60_c15 hF () ⟨_, rfl, rfl, rfl, rfl⟩ rfl)
    | ((with_reducible refine seq_id' ?_); (with_reducible replace hF := chkJ (f := f60_c14 _ _ _) hF); revert hF; (refine Lp.cut3 Lf60_c14 f60_c14 14 rfl rfl ?_ ?_); (intro hF); rotate_left; (rintro twice3' hF; dsimp only [Lf60_c14] at hF; unfold f60_c14 at hF); rotate_right)
    | ((with_reducible refine head_id ?_); (with_reducible replace hF := chkE (e := f60_c14 ..) hF); exact Lp.head Ef60_c14 hF () ⟨_, rfl, rfl, rfl, rfl⟩ rfl)
    | ((with_reducible refine loop_id ?_); (with_reducible replace hF := chkE (e := f60_7 ..) hF); revert hF; (refine Lp.loop Ef60_7 () rfl ⟨_, rfl, rfl, rfl, rfl⟩ rfl (fun _ => rfl) ?_); rintro n ⟨twice3', v17, b500, b501⟩ hF; dsimp only [Lf60_7, f60_7] at hF; unfold f60_7b at hF)
    | ((with_reducible refine back_id ?_); (with_reducible replace hF := chkE (e := f60_7 ..) hF); exact Lp.back Ef60_7 hF () ⟨_, rfl, rfl, rfl, rfl⟩ rfl)
    | ((with_reducible refine loop_id ?_); (with_reducible replace hF := chkE (e := f60_3 ..) hF); revert hF; (refine Lp.loop Ef60_3 () rfl ⟨_, rfl, rfl, rfl, rfl⟩ rfl (fun _ => rfl) ?_); rintro n ⟨twice3, v12⟩ hF; dsimp only [Lf60_3, f60_3] at hF; unfold f60_3b at hF)
    | ((with_reducible refine back_id ?_); (with_reducible replace hF := chkE (e := f60_3 ..) hF); exact Lp.back Ef60_3 hF () ⟨_, rfl, rfl, rfl, rfl⟩ rfl)
    | ((with_reducible refine zeroA_step (List.map bN (List.replicate 10 false)) ?hx ?_); (case hx => exact ⟨by kernel_rfl, by kernel_rfl⟩); conv => whnf)
    | ((with_reducible refine zeroD_step (List.map bN (List.replicate 10 false)) ?hx ?_); (case hx => (unfold zeroD; kernel_rfl)); conv => whnf)
    | ((with_reducible refine chkI_go hF ?_); (clear hF; intro hF; conv => whnf))
    | ((with_reducible have hG := ixN_fact hF); clear hF; (first | (refine ixN_one hG (by (try simp only [W]); omega) (fun x hF => ?_)) | (refine ixN_agg hG (fun _ => rfl) (by (try simp only [W]); omega) (fun x hF => ?_))); clear hG; conv => whnf)
    | ((with_reducible have hG := setN_fact hF); clear hF; (first | (refine setN_one hG (by (try simp only [W]); omega) rfl rfl (fun q hF => ?_)) | (refine setN_agg hG (fun _ => rfl) (by (try simp only [W]); omega) rfl rfl (fun q hF => ?_))); clear hG; conv => whnf)
    | (revert hF; (with_reducible refine idx1 ?hn ?_); (case hn => first | exact rfl | exact (List.length_map _) | assumption | omega | simp); intro x hx hF; conv => whnf)
    | ((refine row_all ?hn ?_); (case hn => first | exact rfl | (simp; done) | (simp; omega)); conv => whnf)
    | ((with_reducible refine le_step ?hn ?_); (case hn => first | exact rfl | assumption | omega); conv => whnf)
    | ((refine ⟨?hx, ?_⟩); (case hx => exact ⟨rfl, Nat.le_of_ble_eq_true rfl, rfl⟩); conv => whnf)
    | ((with_reducible refine ex_step ?_); conv => whnf)
    | ((with_reducible refine both_T ?hx ?_); (case hx => first | exact rfl | assumption | exact notT (by assumption)); conv => whnf)
    | ((with_reducible refine both_F ?hx ?_); (case hx => first | exact rfl | assumption | exact notF (by assumption)); conv => whnf)
    | (revert hF; (with_reducible refine ite_step ?_ ?_) <;> (intro hc hF; conv => whnf))
    | ((with_reducible refine vc_condF ?hx ?_); (case hx => exact rfl))
    | (show retD _ _ _ _ _ _; conv => whnf)
    | ((refine ⟨?hx, trivial⟩); (case hx => (cases hF; exact rfl)))
    | ((refine ⟨?hx, ?_⟩); (case hx => decide); conv => whnf)
    | with_reducible refine k_seq ?_
    | (have hF : (none : Option _) = some _ := hF; cases hF))
end
end Go.Vc
namespace Go.Vc
open Go.Proofs
set_option linter.unusedVariables false
set_option linter.unnecessarySimpa false
set_option linter.unusedSimpArgs false
section
variable {c : Ctx} {p nid : Nat} {a b : Code} {st : St} {K : Ex → St → Prop}
def f42_i403_i404000102_c7 (a0 : List (List Int)) (N : Nat) : Option (Int) :=
 (f60 N a0).bind fun x3 =>
 bif x3 then (some ((6 : Int)))
 else (some ((0 : Int)))
def Lf42_i403_i404000102_c7 (a0 : List (List Int)) (N : Nat) : Lp (Unit) Unit (Int) := lp0 ⟨[], [102], [], []⟩ (fun _ => []) (fun _ => [.box [.dat (iN (List.length a0 : Int))]]) (fun _ => f42_i403_i404000102_c7 a0 N)
theorem Ef42_i403_i404000102_c7 {a0 N} : (Lf42_i403_i404000102_c7 a0 N).E () = f42_i403_i404000102_c7 a0 N := rfl
def f42_i403_i404000102_2b (r2 : Int → Option (Int)) (a0 : List (List Int)) (N : Nat) (x2 : List Int) (k0 : Option (Int)) (v8 : Int) : Option (Int) :=
 bif decide (v8 < (List.length x2 : Int)) then ((ix x2 v8).bind fun x4 =>
 (f44 N (0 : Int) x4 (W ((List.length a0 : Int) - (1 : Int)))).bind fun x5 =>
 bif !x5 then (bif decide ((0 : Int) ≤ v8) then (some ((4 : Int)))
 else ((f60 N a0).bind fun x6 =>
 bif x6 then (some ((6 : Int)))
 else (some ((0 : Int)))))
 else (r2 (W (v8 + (1 : Int)))))
 else k0
def f42_i403_i404000102_2 (a0 : List (List Int)) (N : Nat) (x2 : List Int) (k0 : Option (Int)) : Nat → Int → Option (Int)
  | 0, _ => none
  | n + 1, v8 => f42_i403_i404000102_2b (f42_i403_i404000102_2 a0 N x2 k0 n) a0 N x2 k0 v8
def Lf42_i403_i404000102_2 (a0 : List (List Int)) (N : Nat) (x2 : List Int) (k0 : Option (Int)) : Lp (Nat × Int) Unit (Int) := lp0 ⟨[0, 1, 7, 8], [102], [], []⟩ (fun (_, v8) => [.dat (sl_iN x2), .fn 59 [] [.ptr 102 0], .dat (iN (List.length x2 : Int)), .dat (iN v8)]) (fun (_, _) => [.box [.dat (iN (List.length a0 : Int))]]) (fun (n, v8) => f42_i403_i404000102_2 a0 N x2 k0 n v8)
theorem Ef42_i403_i404000102_2 {a0 N x2 k0 n v8} : (Lf42_i403_i404000102_2 a0 N x2 k0).E (n, v8) = f42_i403_i404000102_2 a0 N x2 k0 n v8 := rfl
def f42_i206_i207000102_c7 (a0 : List (List Int)) (N : Nat) : Option (Int) :=
 (f35 N a0).bind fun x2 =>
 joinK (f42_i403_i404000102_c7 a0 N) fun k0 =>
 f42_i403_i404000102_2 a0 N x2 k0 N (0 : Int)
def Lf42_i206_i207000102_c7 (a0 : List (List Int)) (N : Nat) : Lp (Unit) Unit (Int) := lp0 ⟨[], [102], [], []⟩ (fun _ => []) (fun _ => [.box [.dat (iN (List.length a0 : Int))]]) (fun _ => f42_i206_i207000102_c7 a0 N)
theorem Ef42_i206_i207000102_c7 {a0 N} : (Lf42_i206_i207000102_c7 a0 N).E () = f42_i206_i207000102_c7 a0 N := rfl
def f42_i403_i404000102_c7_1 (a0 : List (List Int)) (N : Nat) : Option (Int) :=
 (f60 N a0).bind fun x9 =>
 bif x9 then (some ((6 : Int)))
 else (some ((0 : Int)))
def Lf42_i403_i404000102_c7_1 (a0 : List (List Int)) (N : Nat) : Lp (Unit) Unit (Int) := lp0 ⟨[], [102], [], []⟩ (fun _ => []) (fun _ => [.box [.dat (iN (List.length a0 : Int))]]) (fun _ => f42_i403_i404000102_c7_1 a0 N)
theorem Ef42_i403_i404000102_c7_1 {a0 N} : (Lf42_i403_i404000102_c7_1 a0 N).E () = f42_i403_i404000102_c7_1 a0 N := rfl
def f42_i403_i404000102_2_1b (r2x : Int → Option (Int)) (a0 : List (List Int)) (N : Nat) (x8 : List Int) (k2 : Option (Int)) (v8' : Int) : Option (Int) :=
 bif decide ((v8') < (List.length x8 : Int)) then ((ix x8 (v8')).bind fun x10 =>
 (f44 N (0 : Int) x10 (W ((List.length a0 : Int) - (1 : Int)))).bind fun x11 =>
 bif !x11 then (bif decide ((0 : Int) ≤ (v8')) then (some ((4 : Int)))
 else ((f60 N a0).bind fun x12 =>
 bif x12 then (some ((6 : Int)))
 else (some ((0 : Int)))))
 else (r2x (W ((v8') + (1 : Int)))))
 else k2
def f42_i403_i404000102_2_1 (a0 : List (List Int)) (N : Nat) (x8 : List Int) (k2 : Option (Int)) : Nat → Int → Option (Int)
  | 0, _ => none
  | n + 1, v8' => f42_i403_i404000102_2_1b (f42_i403_i404000102_2_1 a0 N x8 k2 n) a0 N x8 k2 v8'
def Lf42_i403_i404000102_2_1 (a0 : List (List Int)) (N : Nat) (x8 : List Int) (k2 : Option (Int)) : Lp (Nat × Int) Unit (Int) := lp0 ⟨[0, 1, 7, 8], [102], [], []⟩ (fun (_, v8') => [.dat (sl_iN x8), .fn 59 [] [.ptr 102 0], .dat (iN (List.length x8 : Int)), .dat (iN (v8'))]) (fun (_, _) => [.box [.dat (iN (List.length a0 : Int))]]) (fun (n, v8') => f42_i403_i404000102_2_1 a0 N x8 k2 n v8')
theorem Ef42_i403_i404000102_2_1 {a0 N x8 k2 n v8'} : (Lf42_i403_i404000102_2_1 a0 N x8 k2).E (n, v8') = f42_i403_i404000102_2_1 a0 N x8 k2 n v8' := rfl
def f42_i206_i207000102_2b (r2 : Int → Option (Int)) (a0 : List (List Int)) (N : Nat) (k1 : Option (Int)) (v8 : Int) : Option (Int) :=
 bif decide (v8 < (List.length a0 : Int)) then ((ix a0 v8).bind fun x7 =>
 bif decide (¬ (List.length x7 : Int) = (List.length a0 : Int)) then (bif decide ((0 : Int) ≤ v8) then (some ((3 : Int)))
 else ((f35 N a0).bind fun x8 =>
 joinK (f42_i403_i404000102_c7_1 a0 N) fun k2 =>
 f42_i403_i404000102_2_1 a0 N x8 k2 N (0 : Int)))
 else (r2 (W (v8 + (1 : Int)))))
 else k1
def f42_i206_i207000102_2 (a0 : List (List Int)) (N : Nat) (k1 : Option (Int)) : Nat → Int → Option (Int)
  | 0, _ => none
  | n + 1, v8 => f42_i206_i207000102_2b (f42_i206_i207000102_2 a0 N k1 n) a0 N k1 v8
def Lf42_i206_i207000102_2 (a0 : List (List Int)) (N : Nat) (k1 : Option (Int)) : Lp (Nat × Int) Unit (Int) := lp0 ⟨[0, 1, 7, 8], [102], [], []⟩ (fun (_, v8) => [.dat (sl_sl_iN a0), .fn 58 [] [.ptr 102 0], .dat (iN (List.length a0 : Int)), .dat (iN v8)]) (fun (_, _) => [.box [.dat (iN (List.length a0 : Int))]]) (fun (n, v8) => f42_i206_i207000102_2 a0 N k1 n v8)
theorem Ef42_i206_i207000102_2 {a0 N k1 n v8} : (Lf42_i206_i207000102_2 a0 N k1).E (n, v8) = f42_i206_i207000102_2 a0 N k1 n v8 := rfl
def f42 (N : Nat) (a0 : List (List Int)) : Option (Int) :=
 (f44 N (2 : Int) (List.length a0 : Int) (10 : Int)).bind fun x1 =>
 bif !x1 then (some ((3 : Int)))
 else (joinK (f42_i206_i207000102_c7 a0 N) fun k1 =>
 f42_i206_i207000102_2 a0 N k1 N (0 : Int))
def G42 (ds : List D) (d : D) : Prop := ∃ (N : Nat) (a0 : List (List Int)) (r : Int), ds = [sl_sl_iN a0] ∧ f42 N a0 = some r ∧ d = iN r
theorem G42.lend {N : Nat} {a0 : List (List Int)} {ρ : Type} {A : Int → Option ρ} {q : ρ} {ds : List D} {K : D → Prop} (hd : ds = [sl_sl_iN a0]) (h : ∀ r, A r = some q → K (iN r)) (hF : (f42 N a0).bind A = some q) : ∃ d, (G42 ds d ∧ d.flatB = true) ∧ K d := by
  obtain ⟨r, hr, hA⟩ := bind_some hF
  exact ⟨_, ⟨⟨N, a0, r, hd, hr, rfl⟩, rfl⟩, h r hA⟩
set_option maxRecDepth 20000 in
set_option maxHeartbeats 4000000 in
theorem P42 : PureOK Try.prog 42 G42 := by
  refine pure_of_vc (c := mkCtx tyTree [(57, false, inlPg (mkCtx tyTree [(63, false, inlPg (mkCtx tyTree [(58, false, inlPg (mkCtx tyTree []) Try.f58)]) Try.f63)]) Try.f57), (36, false, inlPg (mkCtx tyTree [(56, false, inlPg (mkCtx tyTree [(59, false, inlPg (mkCtx tyTree [(44, true, lendPg [[0], [0], [0]] G44)]) Try.f59)]) Try.f56)]) Try.f36), (60, true, lendPg [[1]] G60), (44, true, lendPg [[0], [0], [0]] G44), (35, true, purePg [[1]] G35)]) rfl tyOK (ctx_eff (callable Try.func57 rfl rfl) (CallOK.inl rfl tyOK (ctx_eff (callable Try.func63 rfl rfl) (CallOK.inl rfl tyOK (ctx_eff (callable Try.func58 rfl rfl) (CallOK.inl rfl tyOK (ctx_nil) Try.func58 (by kernel_rfl)) (ctx_nil)) Try.func63 (by kernel_rfl)) (ctx_nil)) Try.func57 (by kernel_rfl)) (ctx_eff (callable Try.func36 rfl rfl) (CallOK.inl rfl tyOK (ctx_eff (callable Try.func56 rfl rfl) (CallOK.inl rfl tyOK (ctx_eff (callable Try.func59 rfl rfl) (CallOK.inl rfl tyOK (ctx_lend (callable Try.func44 rfl rfl) P44 (ctx_nil)) Try.func59 (by kernel_rfl)) (ctx_nil)) Try.func56 (by kernel_rfl)) (ctx_nil)) Try.func36 (by kernel_rfl)) (ctx_lend (callable Try.func60 rfl rfl) P60 (ctx_lend (callable Try.func44 rfl rfl) P44 (ctx_cons (callable Try.func35 rfl rfl) P35 (ctx_nil)))))) [[0]] 1 Try.func42 rfl rfl (by decide) (by kernel_rfl) ?_
  rintro ds d ⟨N, a0, r, rfl, hF, rfl⟩ hok
  clear hok
  refine ⟨rfl, ?_⟩
  show vc _ _ _ _ ⟨[(0, .dat (sl_sl_iN a0))], []⟩ _
  unfold f42 at hF
  repeat' (first
    | ((with_reducible first | refine q0 _ _ ?_ | refine q1 _ _ _ _ ?_ | refine q2 _ _ _ ?_); clear Q q0 q1 q2)
    | ((with_reducible first | refine seq_op ?hx (fun Q q0 q1 q2 => ?_) | refine seq_op0 ?hx (fun Q q0 q1 q2 => ?_)); (case hx => exact rfl); conv => whnf)
    | ((with_reducible first | refine seq_off ?hx ?_ | refine seq_off0 ?hx ?_ | refine k_blk_out ?hx ?_ | refine vc_condT ?hx ?_); (case hx => exact rfl))
    | ((with_reducible refine seq_id ?_); (first | ((first | refine seq_opK rfl ?hy (fun Q q0 q1 q2 => ?_) | refine seq_opK0 rfl ?hy (fun Q q0 q1 q2 => ?_)); (case hy => first | assumption | exact notT (by assumption) | exact rfl); conv => whnf) | ((first | refine seq_offK rfl ?hy ?_ | refine seq_offK0 rfl ?hy ?_); (case hy => first | assumption | exact notF (by assumption) | exact rfl)) | (revert hF; (with_reducible first | refine seq_opF ?hx ?_ ?_ | refine seq_opF0 ?hx ?_ ?_); (case hx => exact rfl); (intro hc hF Q q0 q1 q2; conv => whnf); rotate_left; (intro hc hF); rotate_right) | (revert hF; (with_reducible first | refine seq_opN ?hx ?_ ?_ | refine seq_opN0 ?hx ?_ ?_); (case hx => exact rfl); (intro hc hF); rotate_left; (intro hc hF Q q0 q1 q2; conv => whnf); rotate_right)))
    | ((with_reducible refine cond_id ?_); (first | ((refine condKT rfl ?hy ?_); (case hy => first | assumption | exact notT (by assumption) | exact rfl)) | ((refine condKF rfl ?hy ?_); (case hy => first | assumption | exact notF (by assumption) | exact rfl)) | (revert hF; (with_reducible refine condF ?hx ?_ ?_); (case hx => exact rfl); all_goals (intro hc hF))))
    | ((with_reducible refine seq_nil ?_); (first | ((with_reducible refine hR _ ?_); clear R hR) | ((with_reducible refine hL _ ?_); clear L hL)))
    | ((with_reducible first | refine int_step ?_ | refine len_step ?_ | refine idx2 (by assumption) ?_ | refine idx3 (by assumption) ?_); conv => whnf)
    | (with_reducible first | refine vc_block ?_ | refine vc_skip ?_ | refine vc_ret ?_ | refine vc_exit ?_ | refine vc_region (fun R hR => ?_) | refine k_seq_ret ?_ | refine k_seq_exit ?_ | refine k_blk ?_ | refine k_blk_ret ?_ | refine k_blk_here ?_ | refine k_loop_ret ?_ | refine k_loop_exit ?_)
    | ((with_reducible refine vc_seqN [404000103000000007, 207000103000000007, 404000103000000007] ?hx ?_); (case hx => exact rfl))
    | ((with_reducible refine seq_id' ?_); (with_reducible replace hF := chkJ (f := f42_i403_i404000102_c7 _ _) hF); revert hF; (refine Lp.cut2 Lf42_i403_i404000102_c7 f42_i403_i404000102_c7 404000103000000007 rfl rfl ?_ ?_); (intro hF); rotate_left; (rintro _ hF; dsimp only [Lf42_i403_i404000102_c7] at hF; unfold f42_i403_i404000102_c7 at hF); rotate_right)
    | ((with_reducible refine head_id ?_); (with_reducible replace hF := chkE (e := f42_i403_i404000102_c7 ..) hF); exact Lp.head Ef42_i403_i404000102_c7 hF () ⟨_, rfl, rfl, rfl, rfl⟩ rfl)
    | ((with_reducible refine loop_id ?_); (with_reducible replace hF := chkE (e := f42_i403_i404000102_2 ..) hF); revert hF; (refine Lp.loop Ef42_i403_i404000102_2 () rfl ⟨_, rfl, rfl, rfl, rfl⟩ rfl (fun _ => rfl) ?_); rintro n v8 hF; dsimp only [Lf42_i403_i404000102_2, f42_i403_i404000102_2] at hF; unfold f42_i403_i404000102_2b at hF)
    | ((with_reducible refine back_id ?_); (with_reducible replace hF := chkE (e := f42_i403_i404000102_2 ..) hF); exact Lp.back Ef42_i403_i404000102_2 hF () ⟨_, rfl, rfl, rfl, rfl⟩ rfl)
    | ((with_reducible refine seq_id' ?_); (with_reducible replace hF := chkJ (f := f42_i206_i207000102_c7 _ _) hF); revert hF; (refine Lp.cut2 Lf42_i206_i207000102_c7 f42_i206_i207000102_c7 207000103000000007 rfl rfl ?_ ?_); (intro hF); rotate_left; (rintro _ hF; dsimp only [Lf42_i206_i207000102_c7] at hF; unfold f42_i206_i207000102_c7 at hF); rotate_right)
    | ((with_reducible refine head_id ?_); (with_reducible replace hF := chkE (e := f42_i206_i207000102_c7 ..) hF); exact Lp.head Ef42_i206_i207000102_c7 hF () ⟨_, rfl, rfl, rfl, rfl⟩ rfl)
    | ((with_reducible refine seq_id' ?_); (with_reducible replace hF := chkJ (f := f42_i403_i404000102_c7_1 _ _) hF); revert hF; (refine Lp.cut2 Lf42_i403_i404000102_c7_1 f42_i403_i404000102_c7_1 404000103000000007 rfl rfl ?_ ?_); (intro hF); rotate_left; (rintro _ hF; dsimp only [Lf42_i403_i404000102_c7_1] at hF; unfold f42_i403_i404000102_c7_1 at hF); rotate_right)
    | ((with_reducible refine head_id ?_); (with_reducible replace hF := chkE (e := f42_i403_i404000102_c7_1 ..) hF); exact Lp.head Ef42_i403_i404000102_c7_1 hF () ⟨_, rfl, rfl, rfl, rfl⟩ rfl)
    | ((with_reducible refine loop_id ?_); (with_reducible replace hF := chkE (e := f42_i403_i404000102_2_1 ..) hF); revert hF; (refine Lp.loop Ef42_i403_i404000102_2_1 () rfl ⟨_, rfl, rfl, rfl, rfl⟩ rfl (fun _ => rfl) ?_); rintro n v8' hF; dsimp only [Lf42_i403_i404000102_2_1, f42_i403_i404000102_2_1] at hF; unfold f42_i403_i404000102_2_1b at hF)
    | ((with_reducible refine back_id ?_); (with_reducible replace hF := chkE (e := f42_i403_i404000102_2_1 ..) hF); exact Lp.back Ef42_i403_i404000102_2_1 hF () ⟨_, rfl, rfl, rfl, rfl⟩ rfl)
    | ((with_reducible refine loop_id ?_); (with_reducible replace hF := chkE (e := f42_i206_i207000102_2 ..) hF); revert hF; (refine Lp.loop Ef42_i206_i207000102_2 () rfl ⟨_, rfl, rfl, rfl, rfl⟩ rfl (fun _ => rfl) ?_); rintro n v8 hF; dsimp only [Lf42_i206_i207000102_2, f42_i206_i207000102_2] at hF; unfold f42_i206_i207000102_2b at hF)
    | ((with_reducible refine back_id ?_); (with_reducible replace hF := chkE (e := f42_i206_i207000102_2 ..) hF); exact Lp.back Ef42_i206_i207000102_2 hF () ⟨_, rfl, rfl, rfl, rfl⟩ rfl)
    | (revert hF; (with_reducible refine G35.step ?hx ?_); (case hx => exact rfl); intro v hF; conv => whnf)
    | (revert hF; (with_reducible refine G44.lend ?hx ?_); (case hx => exact rfl); intro v hF; conv => whnf)
    | (revert hF; (with_reducible refine G60.lend ?hx ?_); (case hx => exact rfl); intro v hF; conv => whnf)
    | (revert hF; (with_reducible refine idx1 ?hn ?_); (case hn => first | exact rfl | exact (List.length_map _) | assumption | omega | simp); intro x hx hF; conv => whnf)
    | ((refine row_all ?hn ?_); (case hn => first | exact rfl | (simp; done) | (simp; omega)); conv => whnf)
    | ((with_reducible refine le_step ?hn ?_); (case hn => first | exact rfl | assumption | omega); conv => whnf)
    | ((refine ⟨?hx, ?_⟩); (case hx => exact ⟨rfl, Nat.le_of_ble_eq_true rfl, rfl⟩); conv => whnf)
    | ((with_reducible refine ex_step ?_); conv => whnf)
    | ((with_reducible refine both_T ?hx ?_); (case hx => first | exact rfl | assumption | exact notT (by assumption)); conv => whnf)
    | ((with_reducible refine both_F ?hx ?_); (case hx => first | exact rfl | assumption | exact notF (by assumption)); conv => whnf)
    | (revert hF; (with_reducible refine ite_step ?_ ?_) <;> (intro hc hF; conv => whnf))
    | ((with_reducible refine vc_condF ?hx ?_); (case hx => exact rfl))
    | (show retD _ _ _ _ _ _; conv => whnf)
    | ((refine inl_step ?ha ?hb ?hc rfl ?_); (case ha => exact rfl); (case hb => omega); (case hc => exact Nat.le_of_ble_eq_true rfl))
    | (show Kinl _ _ _ _ _ _ _; conv => whnf)
    | ((with_reducible refine kinl_step ?ha ?hb ?_); (case ha => exact rfl); (case hb => exact rfl); conv => whnf)
    | ((refine ⟨?hx, trivial⟩); (case hx => (cases hF; exact rfl)))
    | ((refine ⟨?hx, ?_⟩); (case hx => decide); conv => whnf)
    | with_reducible refine k_seq ?_
    | (have hF : (none : Option _) = some _ := hF; cases hF))
end
end Go.Vc
namespace Go.Vc
open Go.Proofs
set_option linter.unusedVariables false
set_option linter.unnecessarySimpa false
set_option linter.unusedSimpArgs false
section
variable {c : Ctx} {p nid : Nat} {a b : Code} {st : St} {K : Ex → St → Prop}
def f20_i602_i603000102_c7 (a0 : List (List Int)) : Option (Int) :=
 some ((0 : Int))
def Lf20_i602_i603000102_c7 (a0 : List (List Int)) : Lp (Unit) Unit (Int) := lp0 ⟨[], [0], [], []⟩ (fun _ => []) (fun _ => [.box [.dat (sl_sl_iN a0)]]) (fun _ => f20_i602_i603000102_c7 a0)
theorem Ef20_i602_i603000102_c7 {a0} : (Lf20_i602_i603000102_c7 a0).E () = f20_i602_i603000102_c7 a0 := rfl
def f20_i602_i603000102_2b (r2 : Int → Option (Int)) (a0 : List (List Int)) (a1 : List Int) (N : Nat) (k0 : Option (Int)) (v8 : Int) : Option (Int) :=
 bif decide (v8 < (List.length a1 : Int)) then ((ix a1 v8).bind fun x2 =>
 (f44 N (0 : Int) x2 (W ((List.length a0 : Int) - (1 : Int)))).bind fun x3 =>
 bif !x3 then (bif decide ((0 : Int) ≤ v8) then (some ((4 : Int)))
 else (some ((0 : Int))))
 else (r2 (W (v8 + (1 : Int)))))
 else k0
def f20_i602_i603000102_2 (a0 : List (List Int)) (a1 : List Int) (N : Nat) (k0 : Option (Int)) : Nat → Int → Option (Int)
  | 0, _ => none
  | n + 1, v8 => f20_i602_i603000102_2b (f20_i602_i603000102_2 a0 a1 N k0 n) a0 a1 N k0 v8
def Lf20_i602_i603000102_2 (a0 : List (List Int)) (a1 : List Int) (N : Nat) (k0 : Option (Int)) : Lp (Nat × Int) Unit (Int) := lp0 ⟨[0, 1, 7, 8], [0], [], []⟩ (fun (_, v8) => [.dat (sl_iN a1), .fn 43 [] [.ptr 0 0], .dat (iN (List.length a1 : Int)), .dat (iN v8)]) (fun (_, _) => [.box [.dat (sl_sl_iN a0)]]) (fun (n, v8) => f20_i602_i603000102_2 a0 a1 N k0 n v8)
theorem Ef20_i602_i603000102_2 {a0 a1 N k0 n v8} : (Lf20_i602_i603000102_2 a0 a1 N k0).E (n, v8) = f20_i602_i603000102_2 a0 a1 N k0 n v8 := rfl
def f20 (N : Nat) (a0 : List (List Int)) (a1 : List Int) : Option (Int) :=
 (f42 N a0).bind fun x1 =>
 bif decide (¬ x1 = (0 : Int)) then (some (x1))
 else (bif decide ((12 : Int) < (List.length a1 : Int)) then (some ((2 : Int)))
 else (joinK (f20_i602_i603000102_c7 a0) fun k0 =>
 f20_i602_i603000102_2 a0 a1 N k0 N (0 : Int)))
def G20 (ds : List D) (d : D) : Prop := ∃ (N : Nat) (a0 : List (List Int)) (a1 : List Int) (r : Int), ds = [sl_sl_iN a0, sl_iN a1] ∧ f20 N a0 a1 = some r ∧ d = iN r
theorem G20.lend {N : Nat} {a0 : List (List Int)} {a1 : List Int} {ρ : Type} {A : Int → Option ρ} {q : ρ} {ds : List D} {K : D → Prop} (hd : ds = [sl_sl_iN a0, sl_iN a1]) (h : ∀ r, A r = some q → K (iN r)) (hF : (f20 N a0 a1).bind A = some q) : ∃ d, (G20 ds d ∧ d.flatB = true) ∧ K d := by
  obtain ⟨r, hr, hA⟩ := bind_some hF
  exact ⟨_, ⟨⟨N, a0, a1, r, hd, hr, rfl⟩, rfl⟩, h r hA⟩
set_option maxRecDepth 20000 in
set_option maxHeartbeats 4000000 in
theorem P20 : PureOK Try.prog 20 G20 := by
  refine pure_of_vc (c := mkCtx tyTree [(36, false, inlPg (mkCtx tyTree [(56, false, inlPg (mkCtx tyTree [(43, false, inlPg (mkCtx tyTree [(44, true, lendPg [[0], [0], [0]] G44)]) Try.f43)]) Try.f56)]) Try.f36), (42, true, lendPg [[1]] G42)]) rfl tyOK (ctx_eff (callable Try.func36 rfl rfl) (CallOK.inl rfl tyOK (ctx_eff (callable Try.func56 rfl rfl) (CallOK.inl rfl tyOK (ctx_eff (callable Try.func43 rfl rfl) (CallOK.inl rfl tyOK (ctx_lend (callable Try.func44 rfl rfl) P44 (ctx_nil)) Try.func43 (by kernel_rfl)) (ctx_nil)) Try.func56 (by kernel_rfl)) (ctx_nil)) Try.func36 (by kernel_rfl)) (ctx_lend (callable Try.func42 rfl rfl) P42 (ctx_nil))) [[0]] 2 Try.func20 rfl rfl (by decide) (by kernel_rfl) ?_
  rintro ds d ⟨N, a0, a1, r, rfl, hF, rfl⟩ hok
  clear hok
  refine ⟨rfl, ?_⟩
  show vc _ _ _ _ ⟨[(0, .dat (sl_sl_iN a0)), (1, .dat (sl_iN a1))], []⟩ _
  unfold f20 at hF
  repeat' (first
    | ((with_reducible first | refine q0 _ _ ?_ | refine q1 _ _ _ _ ?_ | refine q2 _ _ _ ?_); clear Q q0 q1 q2)
    | ((with_reducible first | refine seq_op ?hx (fun Q q0 q1 q2 => ?_)); (case hx => exact rfl); conv => whnf)
    | ((with_reducible refine cond_id ?_); (first | ((refine condKT rfl ?hy ?_); (case hy => first | assumption | exact notT (by assumption) | exact rfl)) | ((refine condKF rfl ?hy ?_); (case hy => first | assumption | exact notF (by assumption) | exact rfl)) | (revert hF; (with_reducible refine condF ?hx ?_ ?_); (case hx => exact rfl); all_goals (intro hc hF))))
    | ((with_reducible refine seq_nil ?_); (first | ((with_reducible refine hR _ ?_); clear R hR) | ((with_reducible refine hL _ ?_); clear L hL)))
    | ((with_reducible first | refine int_step ?_ | refine len_step ?_ | refine idx2 (by assumption) ?_ | refine idx3 (by assumption) ?_); conv => whnf)
    | (with_reducible first | refine vc_block ?_ | refine vc_skip ?_ | refine vc_ret ?_ | refine vc_exit ?_ | refine vc_region (fun R hR => ?_) | refine k_seq_ret ?_ | refine k_seq_exit ?_ | refine k_blk ?_ | refine k_blk_ret ?_ | refine k_blk_here ?_ | refine k_loop_ret ?_ | refine k_loop_exit ?_)
    | ((with_reducible refine vc_seqN [603000103000000007] ?hx ?_); (case hx => exact rfl))
    | ((with_reducible refine seq_id' ?_); (with_reducible replace hF := chkJ (f := f20_i602_i603000102_c7 _) hF); revert hF; (refine Lp.cut1 Lf20_i602_i603000102_c7 f20_i602_i603000102_c7 603000103000000007 rfl rfl ?_ ?_); (intro hF); rotate_left; (rintro _ hF; dsimp only [Lf20_i602_i603000102_c7] at hF; unfold f20_i602_i603000102_c7 at hF); rotate_right)
    | ((with_reducible refine head_id ?_); (with_reducible replace hF := chkE (e := f20_i602_i603000102_c7 ..) hF); exact Lp.head Ef20_i602_i603000102_c7 hF () ⟨_, rfl, rfl, rfl, rfl⟩ rfl)
    | ((with_reducible refine loop_id ?_); (with_reducible replace hF := chkE (e := f20_i602_i603000102_2 ..) hF); revert hF; (refine Lp.loop Ef20_i602_i603000102_2 () rfl ⟨_, rfl, rfl, rfl, rfl⟩ rfl (fun _ => rfl) ?_); rintro n v8 hF; dsimp only [Lf20_i602_i603000102_2, f20_i602_i603000102_2] at hF; unfold f20_i602_i603000102_2b at hF)
    | ((with_reducible refine back_id ?_); (with_reducible replace hF := chkE (e := f20_i602_i603000102_2 ..) hF); exact Lp.back Ef20_i602_i603000102_2 hF () ⟨_, rfl, rfl, rfl, rfl⟩ rfl)
    | (revert hF; (with_reducible refine G42.lend ?hx ?_); (case hx => exact rfl); intro v hF; conv => whnf)
    | (revert hF; (with_reducible refine G44.lend ?hx ?_); (case hx => exact rfl); intro v hF; conv => whnf)
    | ((with_reducible first | refine k_blk_out ?hx ?_ | refine vc_condT ?hx ?_); (case hx => exact rfl))
    | (revert hF; (with_reducible refine idx1 ?hn ?_); (case hn => first | exact rfl | exact (List.length_map _) | assumption | omega | simp); intro x hx hF; conv => whnf)
    | ((refine row_all ?hn ?_); (case hn => first | exact rfl | (simp; done) | (simp; omega)); conv => whnf)
    | ((with_reducible refine le_step ?hn ?_); (case hn => first | exact rfl | assumption | omega); conv => whnf)
    | ((refine ⟨?hx, ?_⟩); (case hx => exact ⟨rfl, Nat.le_of_ble_eq_true rfl, rfl⟩); conv => whnf)
    | ((with_reducible refine ex_step ?_); conv => whnf)
    | ((with_reducible refine both_T ?hx ?_); (case hx => first | exact rfl | assumption | exact notT (by assumption)); conv => whnf)
    | ((with_reducible refine both_F ?hx ?_); (case hx => first | exact rfl | assumption | exact notF (by assumption)); conv => whnf)
    | (revert hF; (with_reducible refine ite_step ?_ ?_) <;> (intro hc hF; conv => whnf))
    | ((with_reducible refine vc_condF ?hx ?_); (case hx => exact rfl))
    | (show retD _ _ _ _ _ _; conv => whnf)
    | ((refine inl_step ?ha ?hb ?hc rfl ?_); (case ha => exact rfl); (case hb => omega); (case hc => exact Nat.le_of_ble_eq_true rfl))
    | (show Kinl _ _ _ _ _ _ _; conv => whnf)
    | ((with_reducible refine kinl_step ?ha ?hb ?_); (case ha => exact rfl); (case hb => exact rfl); conv => whnf)
    | ((refine ⟨?hx, trivial⟩); (case hx => (cases hF; exact rfl)))
    | ((refine ⟨?hx, ?_⟩); (case hx => decide); conv => whnf)
    | with_reducible refine k_seq ?_
    | (have hF : (none : Option _) = some _ := hF; cases hF))
end
end Go.Vc
namespace Go.Vc
open Go.Proofs
set_option linter.unusedVariables false
set_option linter.unnecessarySimpa false
set_option linter.unusedSimpArgs false
section
variable {c : Ctx} {p nid : Nat} {a b : Code} {st : St} {K : Ex → St → Prop}
def f21_i103_c6 (a0 : List (List Int)) (start0 : Int) : Option (Int) :=
 some (start0)
def Lf21_i103_c6 (a0 : List (List Int)) : Lp (Int) Unit (Int) := lp0 ⟨[0], [0], [], []⟩ (fun start0 => [.dat (iN start0)]) (fun _ => [.box [.dat (sl_sl_iN a0)]]) (fun start0 => f21_i103_c6 a0 start0)
theorem Ef21_i103_c6 {a0 start0} : (Lf21_i103_c6 a0).E start0 = f21_i103_c6 a0 start0 := rfl
def f21_i103_2b (r2 : Int → Int → Option (Int)) (a0 : List (List Int)) (a2 : List Int) (k0 : Int → Option (Int)) (start0 : Int) (v11 : Int) : Option (Int) :=
 bif decide (v11 < (List.length a2 : Int)) then ((ix a2 v11).bind fun x1 =>
 (ix a0 start0).bind fun x2 =>
 (ix x2 x1).bind fun x3 =>
 r2 x3 (W (v11 + (1 : Int))))
 else (k0 start0)
def f21_i103_2 (a0 : List (List Int)) (a2 : List Int) (k0 : Int → Option (Int)) : Nat → Int → Int → Option (Int)
  | 0, _, _ => none
  | n + 1, start0, v11 => f21_i103_2b (f21_i103_2 a0 a2 k0 n) a0 a2 k0 start0 v11
def Lf21_i103_2 (a0 : List (List Int)) (a2 : List Int) (k0 : Int → Option (Int)) : Lp (Nat × Int × Int) Unit (Int) := lp0 ⟨[0, 2, 9, 10, 11], [0], [], []⟩ (fun (_, start0, v11) => [.dat (iN start0), .fn 46 [] [.ptr 0 0], .dat (sl_iN a2), .dat (iN (List.length a2 : Int)), .dat (iN v11)]) (fun (_, _, _) => [.box [.dat (sl_sl_iN a0)]]) (fun (n, start0, v11) => f21_i103_2 a0 a2 k0 n start0 v11)
theorem Ef21_i103_2 {a0 a2 k0 n start0 v11} : (Lf21_i103_2 a0 a2 k0).E (n, start0, v11) = f21_i103_2 a0 a2 k0 n start0 v11 := rfl
def f21 (N : Nat) (a0 : List (List Int)) (a1 : Int) (a2 : List Int) : Option (Int) :=
 joinK (f21_i103_c6 a0) fun k0 =>
 f21_i103_2 a0 a2 k0 N a1 (0 : Int)
def G21 (ds : List D) (d : D) : Prop := ∃ (N : Nat) (a0 : List (List Int)) (a1 : Int) (a2 : List Int) (r : Int), ds = [sl_sl_iN a0, iN a1, sl_iN a2] ∧ f21 N a0 a1 a2 = some r ∧ d = iN r
theorem G21.lend {N : Nat} {a0 : List (List Int)} {a1 : Int} {a2 : List Int} {ρ : Type} {A : Int → Option ρ} {q : ρ} {ds : List D} {K : D → Prop} (hd : ds = [sl_sl_iN a0, iN a1, sl_iN a2]) (h : ∀ r, A r = some q → K (iN r)) (hF : (f21 N a0 a1 a2).bind A = some q) : ∃ d, (G21 ds d ∧ d.flatB = true) ∧ K d := by
  obtain ⟨r, hr, hA⟩ := bind_some hF
  exact ⟨_, ⟨⟨N, a0, a1, a2, r, hd, hr, rfl⟩, rfl⟩, h r hA⟩
set_option maxRecDepth 20000 in
set_option maxHeartbeats 4000000 in
theorem P21 : PureOK Try.prog 21 G21 := by
  refine pure_of_vc (c := mkCtx tyTree [(45, false, inlPg (mkCtx tyTree [(46, false, inlPg (mkCtx tyTree []) Try.f46)]) Try.f45)]) rfl tyOK (ctx_eff (callable Try.func45 rfl rfl) (CallOK.inl rfl tyOK (ctx_eff (callable Try.func46 rfl rfl) (CallOK.inl rfl tyOK (ctx_nil) Try.func46 (by kernel_rfl)) (ctx_nil)) Try.func45 (by kernel_rfl)) (ctx_nil)) [[0]] 3 Try.func21 rfl rfl (by decide) (by kernel_rfl) ?_
  rintro ds d ⟨N, a0, a1, a2, r, rfl, hF, rfl⟩ hok
  clear hok
  refine ⟨rfl, ?_⟩
  show vc _ _ _ _ ⟨[(0, .dat (sl_sl_iN a0)), (1, .dat (iN a1)), (2, .dat (sl_iN a2))], []⟩ _
  unfold f21 at hF
  repeat' (first
    | ((with_reducible first | refine q0 _ _ ?_ | refine q1 _ _ _ _ ?_ | refine q2 _ _ _ ?_); clear Q q0 q1 q2)
    | ((with_reducible first | refine seq_op ?hx (fun Q q0 q1 q2 => ?_)); (case hx => exact rfl); conv => whnf)
    | ((with_reducible refine cond_id ?_); (first | ((refine condKT rfl ?hy ?_); (case hy => first | assumption | exact notT (by assumption) | exact rfl)) | ((refine condKF rfl ?hy ?_); (case hy => first | assumption | exact notF (by assumption) | exact rfl)) | (revert hF; (with_reducible refine condF ?hx ?_ ?_); (case hx => exact rfl); all_goals (intro hc hF))))
    | ((with_reducible refine seq_nil ?_); (first | ((with_reducible refine hR _ ?_); clear R hR) | ((with_reducible refine hL _ ?_); clear L hL)))
    | ((with_reducible first | refine int_step ?_ | refine len_step ?_ | refine idx2 (by assumption) ?_ | refine idx3 (by assumption) ?_); conv => whnf)
    | (with_reducible first | refine vc_block ?_ | refine vc_skip ?_ | refine vc_ret ?_ | refine vc_exit ?_ | refine vc_region (fun R hR => ?_) | refine k_seq_ret ?_ | refine k_seq_exit ?_ | refine k_blk ?_ | refine k_blk_ret ?_ | refine k_blk_here ?_ | refine k_loop_ret ?_ | refine k_loop_exit ?_)
    | ((with_reducible refine vc_seqN [104000000006] ?hx ?_); (case hx => exact rfl))
    | ((with_reducible refine seq_id' ?_); (with_reducible replace hF := chkJ (f := f21_i103_c6 _) hF); revert hF; (refine Lp.cut1 Lf21_i103_c6 f21_i103_c6 104000000006 rfl rfl ?_ ?_); (intro hF); rotate_left; (rintro start0 hF; dsimp only [Lf21_i103_c6] at hF; unfold f21_i103_c6 at hF); rotate_right)
    | ((with_reducible refine head_id ?_); (with_reducible replace hF := chkE (e := f21_i103_c6 ..) hF); exact Lp.head Ef21_i103_c6 hF () ⟨_, rfl, rfl, rfl, rfl⟩ rfl)
    | ((with_reducible refine loop_id ?_); (with_reducible replace hF := chkE (e := f21_i103_2 ..) hF); revert hF; (refine Lp.loop Ef21_i103_2 () rfl ⟨_, rfl, rfl, rfl, rfl⟩ rfl (fun _ => rfl) ?_); rintro n ⟨start0, v11⟩ hF; dsimp only [Lf21_i103_2, f21_i103_2] at hF; unfold f21_i103_2b at hF)
    | ((with_reducible refine back_id ?_); (with_reducible replace hF := chkE (e := f21_i103_2 ..) hF); exact Lp.back Ef21_i103_2 hF () ⟨_, rfl, rfl, rfl, rfl⟩ rfl)
    | ((with_reducible first | refine k_blk_out ?hx ?_ | refine vc_condT ?hx ?_); (case hx => exact rfl))
    | (revert hF; (with_reducible refine idx1 ?hn ?_); (case hn => first | exact rfl | exact (List.length_map _) | assumption | omega | simp); intro x hx hF; conv => whnf)
    | ((refine row_all ?hn ?_); (case hn => first | exact rfl | (simp; done) | (simp; omega)); conv => whnf)
    | ((with_reducible refine le_step ?hn ?_); (case hn => first | exact rfl | assumption | omega); conv => whnf)
    | ((refine ⟨?hx, ?_⟩); (case hx => exact ⟨rfl, Nat.le_of_ble_eq_true rfl, rfl⟩); conv => whnf)
    | ((with_reducible refine ex_step ?_); conv => whnf)
    | ((with_reducible refine both_T ?hx ?_); (case hx => first | exact rfl | assumption | exact notT (by assumption)); conv => whnf)
    | ((with_reducible refine both_F ?hx ?_); (case hx => first | exact rfl | assumption | exact notF (by assumption)); conv => whnf)
    | (revert hF; (with_reducible refine ite_step ?_ ?_) <;> (intro hc hF; conv => whnf))
    | ((with_reducible refine vc_condF ?hx ?_); (case hx => exact rfl))
    | (show retD _ _ _ _ _ _; conv => whnf)
    | ((refine inl_step ?ha ?hb ?hc rfl ?_); (case ha => exact rfl); (case hb => omega); (case hc => exact Nat.le_of_ble_eq_true rfl))
    | (show Kinl _ _ _ _ _ _ _; conv => whnf)
    | ((with_reducible refine kinl_step ?ha ?hb ?_); (case ha => exact rfl); (case hb => exact rfl); conv => whnf)
    | ((refine ⟨?hx, trivial⟩); (case hx => (cases hF; exact rfl)))
    | ((refine ⟨?hx, ?_⟩); (case hx => decide); conv => whnf)
    | with_reducible refine k_seq ?_
    | (have hF : (none : Option _) = some _ := hF; cases hF))
end
end Go.Vc
namespace Go.Vc
open Go.Proofs
set_option linter.unusedVariables false
set_option linter.unnecessarySimpa false
set_option linter.unusedSimpArgs false
section
variable {c : Ctx} {p nid : Nat} {a b : Code} {st : St} {K : Ex → St → Prop}
def f7 (N : Nat) (a0 : List (List Int)) (a1 : List Int) : Option (Int × Int) :=
 (f20 N a0 a1).bind fun x1 =>
 bif decide (¬ x1 = (0 : Int)) then (some ((0 : Int), x1))
 else ((f21 N a0 (0 : Int) a1).bind fun x2 =>
 some (x2, (0 : Int)))
def G7 (ds : List D) (d : D) : Prop := ∃ (N : Nat) (a0 : List (List Int)) (a1 : List Int) (r : Int × Int), ds = [sl_sl_iN a0, sl_iN a1] ∧ f7 N a0 a1 = some r ∧ d = .tup [iN r.1, iN r.2]
theorem G7.lend {N : Nat} {a0 : List (List Int)} {a1 : List Int} {ρ : Type} {A : (Int × Int) → Option ρ} {q : ρ} {ds : List D} {K : D → Prop} (hd : ds = [sl_sl_iN a0, sl_iN a1]) (h : ∀ r, A r = some q → K (.tup [iN r.1, iN r.2])) (hF : (f7 N a0 a1).bind A = some q) : ∃ d, (G7 ds d ∧ d.flatB = true) ∧ K d := by
  obtain ⟨r, hr, hA⟩ := bind_some hF
  exact ⟨_, ⟨⟨N, a0, a1, r, hd, hr, rfl⟩, rfl⟩, h r hA⟩
set_option maxRecDepth 20000 in
set_option maxHeartbeats 4000000 in
theorem P7 : PureOK Try.prog 7 G7 := by
  refine pure_of_vc (c := mkCtx tyTree [(21, true, lendPg [[1], [0], [1]] G21), (20, true, lendPg [[1], [1]] G20)]) rfl tyOK (ctx_lend (callable Try.func21 rfl rfl) P21 (ctx_lend (callable Try.func20 rfl rfl) P20 (ctx_nil))) [[0], [0]] 2 Try.func7 rfl rfl (by decide) (by kernel_rfl) ?_
  rintro ds d ⟨N, a0, a1, r, rfl, hF, rfl⟩ hok
  clear hok
  refine ⟨rfl, ?_⟩
  show vc _ _ _ _ ⟨[(0, .dat (sl_sl_iN a0)), (1, .dat (sl_iN a1))], []⟩ _
  unfold f7 at hF
  repeat' (first
    | ((with_reducible first | refine q0 _ _ ?_ | refine q1 _ _ _ _ ?_ | refine q2 _ _ _ ?_); clear Q q0 q1 q2)
    | ((with_reducible first | refine seq_op ?hx (fun Q q0 q1 q2 => ?_)); (case hx => exact rfl); conv => whnf)
    | ((with_reducible refine cond_id ?_); (first | ((refine condKT rfl ?hy ?_); (case hy => first | assumption | exact notT (by assumption) | exact rfl)) | ((refine condKF rfl ?hy ?_); (case hy => first | assumption | exact notF (by assumption) | exact rfl)) | (revert hF; (with_reducible refine condF ?hx ?_ ?_); (case hx => exact rfl); all_goals (intro hc hF))))
    | ((with_reducible refine seq_nil ?_); (first | ((with_reducible refine hR _ ?_); clear R hR) | ((with_reducible refine hL _ ?_); clear L hL)))
    | ((with_reducible first | refine int_step ?_); conv => whnf)
    | (with_reducible first | refine vc_block ?_ | refine vc_skip ?_ | refine vc_ret ?_ | refine vc_exit ?_ | refine vc_region (fun R hR => ?_) | refine k_seq_ret ?_ | refine k_seq_exit ?_ | refine k_blk ?_ | refine k_blk_ret ?_ | refine k_blk_here ?_)
    | ((with_reducible refine vc_seqN [] ?hx ?_); (case hx => exact rfl))
    | (revert hF; (with_reducible refine G20.lend ?hx ?_); (case hx => exact rfl); intro v hF; conv => whnf)
    | (revert hF; (with_reducible refine G21.lend ?hx ?_); (case hx => exact rfl); intro v hF; conv => whnf)
    | ((with_reducible first | refine k_blk_out ?hx ?_ | refine vc_condT ?hx ?_); (case hx => exact rfl))
    | ((refine row_all ?hn ?_); (case hn => first | exact rfl | (simp; done) | (simp; omega)); conv => whnf)
    | ((with_reducible refine le_step ?hn ?_); (case hn => first | exact rfl | assumption | omega); conv => whnf)
    | ((refine ⟨?hx, ?_⟩); (case hx => exact ⟨rfl, Nat.le_of_ble_eq_true rfl, rfl⟩); conv => whnf)
    | ((with_reducible refine ex_step ?_); conv => whnf)
    | ((with_reducible refine both_T ?hx ?_); (case hx => first | exact rfl | assumption | exact notT (by assumption)); conv => whnf)
    | ((with_reducible refine both_F ?hx ?_); (case hx => first | exact rfl | assumption | exact notF (by assumption)); conv => whnf)
    | (revert hF; (with_reducible refine ite_step ?_ ?_) <;> (intro hc hF; conv => whnf))
    | ((with_reducible refine vc_condF ?hx ?_); (case hx => exact rfl))
    | (show retD _ _ _ _ _ _; conv => whnf)
    | ((refine ⟨?hx, trivial⟩); (case hx => (cases hF; exact rfl)))
    | ((refine ⟨?hx, ?_⟩); (case hx => decide); conv => whnf)
    | with_reducible refine k_seq ?_
    | (have hF : (none : Option _) = some _ := hF; cases hF))
end
end Go.Vc
namespace Go.Vc
open Go.Proofs
set_option linter.unusedVariables false
set_option linter.unnecessarySimpa false
set_option linter.unusedSimpArgs false
section
variable {c : Ctx} {p nid : Nat} {a b : Code} {st : St} {K : Ex → St → Prop}
def f22_c7 : Option (Int) :=
 some ((-1 : Int))
def Lf22_c7 : Lp (Unit) Unit (Int) := lp0 ⟨[], [], [], []⟩ (fun _ => []) (fun _ => []) (fun _ => f22_c7)
theorem Ef22_c7 : (Lf22_c7).E () = f22_c7 := rfl
def f22_2b (r2 : Int → Option (Int)) (a0 : List Int) (a1 : Int) (k0 : Option (Int)) (v8 : Int) : Option (Int) :=
 bif decide (v8 < (List.length a0 : Int)) then ((ix a0 v8).bind fun x1 =>
 bif decide (a1 = x1) then (some (v8))
 else (r2 (W (v8 + (1 : Int)))))
 else k0
def f22_2 (a0 : List Int) (a1 : Int) (k0 : Option (Int)) : Nat → Int → Option (Int)
  | 0, _ => none
  | n + 1, v8 => f22_2b (f22_2 a0 a1 k0 n) a0 a1 k0 v8
def Lf22_2 (a0 : List Int) (a1 : Int) (k0 : Option (Int)) : Lp (Nat × Int) Unit (Int) := lp0 ⟨[0, 1, 7, 8], [], [], []⟩ (fun (_, v8) => [.dat (sl_iN a0), .dat (iN a1), .dat (iN (List.length a0 : Int)), .dat (iN v8)]) (fun (_, _) => []) (fun (n, v8) => f22_2 a0 a1 k0 n v8)
theorem Ef22_2 {a0 a1 k0 n v8} : (Lf22_2 a0 a1 k0).E (n, v8) = f22_2 a0 a1 k0 n v8 := rfl
def f22 (N : Nat) (a0 : List Int) (a1 : Int) : Option (Int) :=
 joinK f22_c7 fun k0 =>
 f22_2 a0 a1 k0 N (0 : Int)
def G22 (ds : List D) (d : D) : Prop := ∃ (N : Nat) (a0 : List Int) (a1 : Int) (r : Int), ds = [sl_iN a0, iN a1] ∧ f22 N a0 a1 = some r ∧ d = iN r
theorem G22.lend {N : Nat} {a0 : List Int} {a1 : Int} {ρ : Type} {A : Int → Option ρ} {q : ρ} {ds : List D} {K : D → Prop} (hd : ds = [sl_iN a0, iN a1]) (h : ∀ r, A r = some q → K (iN r)) (hF : (f22 N a0 a1).bind A = some q) : ∃ d, (G22 ds d ∧ d.flatB = true) ∧ K d := by
  obtain ⟨r, hr, hA⟩ := bind_some hF
  exact ⟨_, ⟨⟨N, a0, a1, r, hd, hr, rfl⟩, rfl⟩, h r hA⟩
set_option maxRecDepth 20000 in
set_option maxHeartbeats 4000000 in
theorem P22 : PureOK Try.prog 22 G22 := by
  refine pure_of_vc (c := mkCtx tyTree []) rfl tyOK (ctx_nil) [[0]] 2 Try.func22 rfl rfl (by decide) (by kernel_rfl) ?_
  rintro ds d ⟨N, a0, a1, r, rfl, hF, rfl⟩ hok
  clear hok
  refine ⟨rfl, ?_⟩
  show vc _ _ _ _ ⟨[(0, .dat (sl_iN a0)), (1, .dat (iN a1))], []⟩ _
  unfold f22 at hF
  repeat' (first
    | ((with_reducible first | refine q0 _ _ ?_ | refine q1 _ _ _ _ ?_ | refine q2 _ _ _ ?_); clear Q q0 q1 q2)
    | ((with_reducible first | refine seq_op ?hx (fun Q q0 q1 q2 => ?_)); (case hx => exact rfl); conv => whnf)
    | ((with_reducible refine cond_id ?_); (first | ((refine condKT rfl ?hy ?_); (case hy => first | assumption | exact notT (by assumption) | exact rfl)) | ((refine condKF rfl ?hy ?_); (case hy => first | assumption | exact notF (by assumption) | exact rfl)) | (revert hF; (with_reducible refine condF ?hx ?_ ?_); (case hx => exact rfl); all_goals (intro hc hF))))
    | ((with_reducible refine seq_nil ?_); (first | ((with_reducible refine hR _ ?_); clear R hR) | ((with_reducible refine hL _ ?_); clear L hL)))
    | ((with_reducible first | refine int_step ?_ | refine len_step ?_ | refine idx2 (by assumption) ?_ | refine idx3 (by assumption) ?_); conv => whnf)
    | (with_reducible first | refine vc_block ?_ | refine vc_skip ?_ | refine vc_ret ?_ | refine vc_exit ?_ | refine vc_region (fun R hR => ?_) | refine k_seq_ret ?_ | refine k_seq_exit ?_ | refine k_blk ?_ | refine k_blk_ret ?_ | refine k_blk_here ?_ | refine k_loop_ret ?_ | refine k_loop_exit ?_)
    | ((with_reducible refine vc_seqN [7] ?hx ?_); (case hx => exact rfl))
    | ((with_reducible refine seq_id' ?_); (with_reducible replace hF := chkJ (f := f22_c7) hF); revert hF; (refine Lp.cut0 Lf22_c7 f22_c7 7 rfl rfl ?_ ?_); (intro hF); rotate_left; (rintro _ hF; dsimp only [Lf22_c7] at hF; unfold f22_c7 at hF); rotate_right)
    | ((with_reducible refine head_id ?_); (with_reducible replace hF := chkE (e := f22_c7) hF); exact Lp.head Ef22_c7 hF () ⟨_, rfl, rfl, rfl, rfl⟩ rfl)
    | ((with_reducible refine loop_id ?_); (with_reducible replace hF := chkE (e := f22_2 ..) hF); revert hF; (refine Lp.loop Ef22_2 () rfl ⟨_, rfl, rfl, rfl, rfl⟩ rfl (fun _ => rfl) ?_); rintro n v8 hF; dsimp only [Lf22_2, f22_2] at hF; unfold f22_2b at hF)
    | ((with_reducible refine back_id ?_); (with_reducible replace hF := chkE (e := f22_2 ..) hF); exact Lp.back Ef22_2 hF () ⟨_, rfl, rfl, rfl, rfl⟩ rfl)
    | ((with_reducible first | refine k_blk_out ?hx ?_ | refine vc_condT ?hx ?_); (case hx => exact rfl))
    | (revert hF; (with_reducible refine idx1 ?hn ?_); (case hn => first | exact rfl | exact (List.length_map _) | assumption | omega | simp); intro x hx hF; conv => whnf)
    | ((refine row_all ?hn ?_); (case hn => first | exact rfl | (simp; done) | (simp; omega)); conv => whnf)
    | ((with_reducible refine le_step ?hn ?_); (case hn => first | exact rfl | assumption | omega); conv => whnf)
    | ((refine ⟨?hx, ?_⟩); (case hx => exact ⟨rfl, Nat.le_of_ble_eq_true rfl, rfl⟩); conv => whnf)
    | ((with_reducible refine ex_step ?_); conv => whnf)
    | ((with_reducible refine both_T ?hx ?_); (case hx => first | exact rfl | assumption | exact notT (by assumption)); conv => whnf)
    | ((with_reducible refine both_F ?hx ?_); (case hx => first | exact rfl | assumption | exact notF (by assumption)); conv => whnf)
    | (revert hF; (with_reducible refine ite_step ?_ ?_) <;> (intro hc hF; conv => whnf))
    | ((with_reducible refine vc_condF ?hx ?_); (case hx => exact rfl))
    | (show retD _ _ _ _ _ _; conv => whnf)
    | ((refine ⟨?hx, trivial⟩); (case hx => (cases hF; exact rfl)))
    | ((refine ⟨?hx, ?_⟩); (case hx => decide); conv => whnf)
    | with_reducible refine k_seq ?_
    | (have hF : (none : Option _) = some _ := hF; cases hF))
end
end Go.Vc
namespace Go.Vc
open Go.Proofs
set_option linter.unusedVariables false
set_option linter.unnecessarySimpa false
set_option linter.unusedSimpArgs false
section
variable {c : Ctx} {p nid : Nat} {a b : Code} {st : St} {K : Ex → St → Prop}
def f8 (N : Nat) (a0 : List (List Int)) (a1 : List Int) : Option (Int × Int) :=
 (f7 N a0 a1).bind fun x1 =>
 bif decide (¬ x1.2 = (0 : Int)) then (some ((0 : Int), x1.2))
 else ((ix a0 x1.1).bind fun x2 =>
 (f22 N x2 (0 : Int)).bind fun x3 =>
 some (x3, (0 : Int)))
def G8 (ds : List D) (d : D) : Prop := ∃ (N : Nat) (a0 : List (List Int)) (a1 : List Int) (r : Int × Int), ds = [sl_sl_iN a0, sl_iN a1] ∧ f8 N a0 a1 = some r ∧ d = .tup [iN r.1, iN r.2]
theorem G8.lend {N : Nat} {a0 : List (List Int)} {a1 : List Int} {ρ : Type} {A : (Int × Int) → Option ρ} {q : ρ} {ds : List D} {K : D → Prop} (hd : ds = [sl_sl_iN a0, sl_iN a1]) (h : ∀ r, A r = some q → K (.tup [iN r.1, iN r.2])) (hF : (f8 N a0 a1).bind A = some q) : ∃ d, (G8 ds d ∧ d.flatB = true) ∧ K d := by
  obtain ⟨r, hr, hA⟩ := bind_some hF
  exact ⟨_, ⟨⟨N, a0, a1, r, hd, hr, rfl⟩, rfl⟩, h r hA⟩
set_option maxRecDepth 20000 in
set_option maxHeartbeats 4000000 in
theorem P8 : PureOK Try.prog 8 G8 := by
  refine pure_of_vc (c := mkCtx tyTree [(22, true, lendPg [[1], [0]] G22), (7, true, lendPg [[1], [1]] G7)]) rfl tyOK (ctx_lend (callable Try.func22 rfl rfl) P22 (ctx_lend (callable Try.func7 rfl rfl) P7 (ctx_nil))) [[0], [0]] 2 Try.func8 rfl rfl (by decide) (by kernel_rfl) ?_
  rintro ds d ⟨N, a0, a1, r, rfl, hF, rfl⟩ hok
  clear hok
  refine ⟨rfl, ?_⟩
  show vc _ _ _ _ ⟨[(0, .dat (sl_sl_iN a0)), (1, .dat (sl_iN a1))], []⟩ _
  unfold f8 at hF
  repeat' (first
    | ((with_reducible first | refine q0 _ _ ?_ | refine q1 _ _ _ _ ?_ | refine q2 _ _ _ ?_); clear Q q0 q1 q2)
    | ((with_reducible first | refine seq_op ?hx (fun Q q0 q1 q2 => ?_)); (case hx => exact rfl); conv => whnf)
    | ((with_reducible refine cond_id ?_); (first | ((refine condKT rfl ?hy ?_); (case hy => first | assumption | exact notT (by assumption) | exact rfl)) | ((refine condKF rfl ?hy ?_); (case hy => first | assumption | exact notF (by assumption) | exact rfl)) | (revert hF; (with_reducible refine condF ?hx ?_ ?_); (case hx => exact rfl); all_goals (intro hc hF))))
    | ((with_reducible refine seq_nil ?_); (first | ((with_reducible refine hR _ ?_); clear R hR) | ((with_reducible refine hL _ ?_); clear L hL)))
    | ((with_reducible first | refine int_step ?_ | refine idx2 (by assumption) ?_ | refine idx3 (by assumption) ?_); conv => whnf)
    | (with_reducible first | refine vc_block ?_ | refine vc_skip ?_ | refine vc_ret ?_ | refine vc_exit ?_ | refine vc_region (fun R hR => ?_) | refine k_seq_ret ?_ | refine k_seq_exit ?_ | refine k_blk ?_ | refine k_blk_ret ?_ | refine k_blk_here ?_)
    | ((with_reducible refine vc_seqN [] ?hx ?_); (case hx => exact rfl))
    | (revert hF; (with_reducible refine G7.lend ?hx ?_); (case hx => exact rfl); intro v hF; conv => whnf)
    | (revert hF; (with_reducible refine G22.lend ?hx ?_); (case hx => exact rfl); intro v hF; conv => whnf)
    | ((with_reducible first | refine k_blk_out ?hx ?_ | refine vc_condT ?hx ?_); (case hx => exact rfl))
    | (revert hF; (with_reducible refine idx1 ?hn ?_); (case hn => first | exact rfl | exact (List.length_map _) | assumption | omega | simp); intro x hx hF; conv => whnf)
    | ((refine row_all ?hn ?_); (case hn => first | exact rfl | (simp; done) | (simp; omega)); conv => whnf)
    | ((with_reducible refine le_step ?hn ?_); (case hn => first | exact rfl | assumption | omega); conv => whnf)
    | ((refine ⟨?hx, ?_⟩); (case hx => exact ⟨rfl, Nat.le_of_ble_eq_true rfl, rfl⟩); conv => whnf)
    | ((with_reducible refine ex_step ?_); conv => whnf)
    | ((with_reducible refine both_T ?hx ?_); (case hx => first | exact rfl | assumption | exact notT (by assumption)); conv => whnf)
    | ((with_reducible refine both_F ?hx ?_); (case hx => first | exact rfl | assumption | exact notF (by assumption)); conv => whnf)
    | (revert hF; (with_reducible refine ite_step ?_ ?_) <;> (intro hc hF; conv => whnf))
    | ((with_reducible refine vc_condF ?hx ?_); (case hx => exact rfl))
    | (show retD _ _ _ _ _ _; conv => whnf)
    | ((refine ⟨?hx, trivial⟩); (case hx => (cases hF; exact rfl)))
    | ((refine ⟨?hx, ?_⟩); (case hx => decide); conv => whnf)
    | with_reducible refine k_seq ?_
    | (have hF : (none : Option _) = some _ := hF; cases hF))
end
end Go.Vc
namespace Go.Vc
open Go.Proofs
set_option linter.unusedVariables false
set_option linter.unnecessarySimpa false
set_option linter.unusedSimpArgs false
section
variable {c : Ctx} {p nid : Nat} {a b : Code} {st : St} {K : Ex → St → Prop}
def f51_c3 (a0' : Int) : Option (Int) :=
 some (a0')
def Lf51_c3 : Lp (Int) Unit (Int) := lp0 ⟨[0], [], [], []⟩ (fun a0' => [.dat (iN (a0'))]) (fun _ => []) (fun a0' => f51_c3 a0')
theorem Ef51_c3 {a0'} : (Lf51_c3).E a0' = f51_c3 a0' := rfl
def f51_1b (r1 : Int → Int → Option (Int)) (k0 : Int → Option (Int)) (a0' : Int) (b1 : Int) : Option (Int) :=
 bif decide ((0 : Int) < b1) then ((chk (decide (b1 ≠ 0))).bind fun _ =>
 r1 b1 (Int.tmod (a0') b1))
 else (k0 (a0'))
def f51_1 (k0 : Int → Option (Int)) : Nat → Int → Int → Option (Int)
  | 0, _, _ => none
  | n + 1, a0', b1 => f51_1b (f51_1 k0 n) k0 a0' b1
def Lf51_1 (k0 : Int → Option (Int)) : Lp (Nat × Int × Int) Unit (Int) := lp0 ⟨[0, 1], [], [], []⟩ (fun (_, a0', b1) => [.dat (iN (a0')), .dat (iN b1)]) (fun (_, _, _) => []) (fun (n, a0', b1) => f51_1 k0 n a0' b1)
theorem Ef51_1 {k0 n a0' b1} : (Lf51_1 k0).E (n, a0', b1) = f51_1 k0 n a0' b1 := rfl
def f51 (N : Nat) (a0 : Int) (a1 : Int) : Option (Int) :=
 joinK f51_c3 fun k0 =>
 f51_1 k0 N a0 a1
def G51 (ds : List D) (d : D) : Prop := ∃ (N : Nat) (a0 : Int) (a1 : Int) (r : Int), ds = [iN a0, iN a1] ∧ f51 N a0 a1 = some r ∧ d = iN r
theorem G51.lend {N : Nat} {a0 : Int} {a1 : Int} {ρ : Type} {A : Int → Option ρ} {q : ρ} {ds : List D} {K : D → Prop} (hd : ds = [iN a0, iN a1]) (h : ∀ r, A r = some q → K (iN r)) (hF : (f51 N a0 a1).bind A = some q) : ∃ d, (G51 ds d ∧ d.flatB = true) ∧ K d := by
  obtain ⟨r, hr, hA⟩ := bind_some hF
  exact ⟨_, ⟨⟨N, a0, a1, r, hd, hr, rfl⟩, rfl⟩, h r hA⟩
set_option maxRecDepth 20000 in
set_option maxHeartbeats 4000000 in
theorem P51 : PureOK Try.prog 51 G51 := by
  refine pure_of_vc (c := mkCtx tyTree []) rfl tyOK (ctx_nil) [[0]] 2 Try.func51 rfl rfl (by decide) (by kernel_rfl) ?_
  rintro ds d ⟨N, a0, a1, r, rfl, hF, rfl⟩ hok
  clear hok
  refine ⟨rfl, ?_⟩
  show vc _ _ _ _ ⟨[(0, .dat (iN a0)), (1, .dat (iN a1))], []⟩ _
  unfold f51 at hF
  repeat' (first
    | ((with_reducible first | refine q0 _ _ ?_ | refine q1 _ _ _ _ ?_ | refine q2 _ _ _ ?_); clear Q q0 q1 q2)
    | ((with_reducible first | refine seq_op ?hx (fun Q q0 q1 q2 => ?_) | refine draw_op ?hx (fun Q q0 q1 q2 => ?_)); (case hx => exact rfl); conv => whnf)
    | ((with_reducible refine cond_id ?_); (first | ((refine condKT rfl ?hy ?_); (case hy => first | assumption | exact notT (by assumption) | exact rfl)) | ((refine condKF rfl ?hy ?_); (case hy => first | assumption | exact notF (by assumption) | exact rfl)) | (revert hF; (with_reducible refine condF ?hx ?_ ?_); (case hx => exact rfl); all_goals (intro hc hF))))
    | ((with_reducible refine seq_nil ?_); (first | ((with_reducible refine hR _ ?_); clear R hR) | ((with_reducible refine hL _ ?_); clear L hL)))
    | ((with_reducible refine draw_nil ?_); (with_reducible refine hR _ _ ?hx ?_); (case hx => kernel_rfl); (first | clear R hR | clear hR))
    | ((with_reducible first | refine int_step ?_); conv => whnf)
    | (with_reducible first | refine vc_block ?_ | refine vc_skip ?_ | refine vc_ret ?_ | refine vc_exit ?_ | refine vc_region (fun R hR => ?_) | refine k_seq_ret ?_ | refine k_seq_exit ?_ | refine k_blk ?_ | refine k_blk_ret ?_ | refine k_blk_here ?_ | refine k_loop_ret ?_ | refine k_loop_exit ?_)
    | ((with_reducible refine vc_seqN [3] ?hx ?_); (case hx => exact rfl))
    | ((with_reducible refine vc_draw ?hx (fun R hR => ?_)); (case hx => exact rfl))
    | ((with_reducible refine seq_id' ?_); (with_reducible replace hF := chkJ (f := f51_c3) hF); revert hF; (refine Lp.cut0 Lf51_c3 f51_c3 3 rfl rfl ?_ ?_); (intro hF); rotate_left; (rintro a0' hF; dsimp only [Lf51_c3] at hF; unfold f51_c3 at hF); rotate_right)
    | ((with_reducible refine head_id ?_); (with_reducible replace hF := chkE (e := f51_c3 ..) hF); exact Lp.head Ef51_c3 hF () ⟨_, rfl, rfl, rfl, rfl⟩ rfl)
    | ((with_reducible refine loop_id ?_); (with_reducible replace hF := chkE (e := f51_1 ..) hF); revert hF; (refine Lp.loop Ef51_1 () rfl ⟨_, rfl, rfl, rfl, rfl⟩ rfl (fun _ => rfl) ?_); rintro n ⟨a0', b1⟩ hF; dsimp only [Lf51_1, f51_1] at hF; unfold f51_1b at hF)
    | ((with_reducible refine back_id ?_); (with_reducible replace hF := chkE (e := f51_1 ..) hF); exact Lp.back Ef51_1 hF () ⟨_, rfl, rfl, rfl, rfl⟩ rfl)
    | ((with_reducible first | refine k_blk_out ?hx ?_ | refine vc_condT ?hx ?_); (case hx => exact rfl))
    | ((refine row_all ?hn ?_); (case hn => first | exact rfl | (simp; done) | (simp; omega)); conv => whnf)
    | ((with_reducible refine le_step ?hn ?_); (case hn => first | exact rfl | assumption | omega); conv => whnf)
    | ((refine ⟨?hx, ?_⟩); (case hx => exact ⟨rfl, Nat.le_of_ble_eq_true rfl, rfl⟩); conv => whnf)
    | ((with_reducible refine ex_step ?_); conv => whnf)
    | ((with_reducible have hG := chk_fact hF); clear hF; (refine ⟨?hx, ?_⟩); (case hx => (first | exact of_decide_eq_true hG.1 | exact hG.1)); have hF := hG.2; clear hG; conv => whnf)
    | ((with_reducible refine both_T ?hx ?_); (case hx => first | exact rfl | assumption | exact notT (by assumption)); conv => whnf)
    | ((with_reducible refine both_F ?hx ?_); (case hx => first | exact rfl | assumption | exact notF (by assumption)); conv => whnf)
    | (revert hF; (with_reducible refine ite_step ?_ ?_) <;> (intro hc hF; conv => whnf))
    | ((with_reducible refine vc_condF ?hx ?_); (case hx => exact rfl))
    | (show retD _ _ _ _ _ _; conv => whnf)
    | ((refine ⟨?hx, trivial⟩); (case hx => (cases hF; exact rfl)))
    | ((refine ⟨?hx, ?_⟩); (case hx => decide); conv => whnf)
    | with_reducible refine k_seq ?_
    | (have hF : (none : Option _) = some _ := hF; cases hF))
end
end Go.Vc
namespace Go.Vc
open Go.Proofs
set_option linter.unusedVariables false
set_option linter.unnecessarySimpa false
set_option linter.unusedSimpArgs false
section
variable {c : Ctx} {p nid : Nat} {a b : Code} {st : St} {K : Ex → St → Prop}
def f29_c15 (b501 : List (List Int)) : Option ((List (List Int)) × Int) :=
 some (b501, (0 : Int))
def Lf29_c15 : Lp ((List (List Int))) (Nat) ((List (List Int)) × Int) := ⟨⟨[6], [501], [], []⟩, fun b501 => [.rs 501 (List.length b501)], fun b501 => [.nest 28 3 1 none (List.map (List.map iN) b501)], fun b501 => f29_c15 b501, fun _ m0 => [.rs 501 m0], fun b501 _ => [.nest 28 3 1 none (List.map (List.map iN) b501)], fun b501 => List.length b501, fun _ => rfl, fun _ => rfl⟩
theorem Ef29_c15 {b501} : (Lf29_c15).E b501 = f29_c15 b501 := rfl
def f29_c14 (a0 : Int) (a1 : Int) (x4 : List (List Int)) (v29 : Int) (r7 : Int → (List (List Int)) → Option ((List (List Int)) × Int)) (b501' : List (List Int)) : Option ((List (List Int)) × Int) :=
 r7 (W (v29 + (1 : Int))) (b501')
def Lf29_c14 (a0 : Int) (a1 : Int) (x4 : List (List Int)) (v29 : Int) (r7 : Int → (List (List Int)) → Option ((List (List Int)) × Int)) : Lp ((List (List Int))) (Nat) ((List (List Int)) × Int) := ⟨⟨[0, 1, 6, 28, 29], [501], [], []⟩, fun b501' => [.dat (iN a0), .dat (iN a1), .rs 501 (List.length (b501')), .dat (iN (List.length x4 : Int)), .dat (iN v29)], fun b501' => [.nest 28 3 1 none (List.map (List.map iN) (b501'))], fun b501' => f29_c14 a0 a1 x4 v29 r7 b501', fun _ m0 => [.dat (iN a0), .dat (iN a1), .rs 501 m0, .dat (iN (List.length x4 : Int)), .dat (iN v29)], fun b501' _ => [.nest 28 3 1 none (List.map (List.map iN) (b501'))], fun b501' => List.length (b501'), fun _ => rfl, fun _ => rfl⟩
theorem Ef29_c14 {a0 a1 x4 v29 r7 b501'} : (Lf29_c14 a0 a1 x4 v29 r7).E b501' = f29_c14 a0 a1 x4 v29 r7 b501' := rfl
def f29_10b (r10 : Int → (List (List Int)) → Option ((List (List Int)) × Int)) (a0 : Int) (a1 : Int) (x4 : List (List Int)) (v29 : Int) (k1 : (List (List Int)) → Option ((List (List Int)) × Int)) (v33 : Int) (b501' : List (List Int)) : Option ((List (List Int)) × Int) :=
 bif decide (v33 < a0) then ((ix (b501') v29).bind fun x5 =>
 (chk (decide (a0 ≠ 0))).bind fun _ =>
 (app 8 x5 [Int.tmod (W ((W (a1 * v29)) + v33)) a0]).bind fun x6 =>
 (ix (b501') v29).bind fun x7 =>
 (setx (b501') v29 x6).bind fun x8 =>
 r10 (W (v33 + (1 : Int))) x8)
 else (k1 (b501'))
def f29_10 (a0 : Int) (a1 : Int) (x4 : List (List Int)) (v29 : Int) (k1 : (List (List Int)) → Option ((List (List Int)) × Int)) : Nat → Int → (List (List Int)) → Option ((List (List Int)) × Int)
  | 0, _, _ => none
  | n + 1, v33, b501' => f29_10b (f29_10 a0 a1 x4 v29 k1 n) a0 a1 x4 v29 k1 v33 b501'
def Lf29_10 (a0 : Int) (a1 : Int) (x4 : List (List Int)) (v29 : Int) (k1 : (List (List Int)) → Option ((List (List Int)) × Int)) : Lp (Nat × Int × (List (List Int))) (Nat) ((List (List Int)) × Int) := ⟨⟨[0, 1, 6, 7, 28, 29, 32, 33], [501], [], []⟩, fun (_, v33, b501') => [.dat (iN a0), .dat (iN a1), .rs 501 (List.length (b501')), .dat (iN v29), .dat (iN (List.length x4 : Int)), .dat (iN v29), .dat (iN a0), .dat (iN v33)], fun (_, _, b501') => [.nest 28 3 1 none (List.map (List.map iN) (b501'))], fun (n, v33, b501') => f29_10 a0 a1 x4 v29 k1 n v33 b501', fun (_, v33, _) m0 => [.dat (iN a0), .dat (iN a1), .rs 501 m0, .dat (iN v29), .dat (iN (List.length x4 : Int)), .dat (iN v29), .dat (iN a0), .dat (iN v33)], fun (_, _, b501') _ => [.nest 28 3 1 none (List.map (List.map iN) (b501'))], fun (_, _, b501') => List.length (b501'), fun _ => rfl, fun _ => rfl⟩
theorem Ef29_10 {a0 a1 x4 v29 k1 n v33 b501'} : (Lf29_10 a0 a1 x4 v29 k1).E (n, v33, b501') = f29_10 a0 a1 x4 v29 k1 n v33 b501' := rfl
def f29_7b (r7 : Int → (List (List Int)) → Option ((List (List Int)) × Int)) (a0 : Int) (a1 : Int) (N : Nat) (x4 : List (List Int)) (k0 : (List (List Int)) → Option ((List (List Int)) × Int)) (v29 : Int) (b501 : List (List Int)) : Option ((List (List Int)) × Int) :=
 bif decide (v29 < (List.length x4 : Int)) then (joinK (f29_c14 a0 a1 x4 v29 r7) fun k1 =>
 f29_10 a0 a1 x4 v29 k1 N (0 : Int) b501)
 else (k0 b501)
def f29_7 (a0 : Int) (a1 : Int) (N : Nat) (x4 : List (List Int)) (k0 : (List (List Int)) → Option ((List (List Int)) × Int)) : Nat → Int → (List (List Int)) → Option ((List (List Int)) × Int)
  | 0, _, _ => none
  | n + 1, v29, b501 => f29_7b (f29_7 a0 a1 N x4 k0 n) a0 a1 N x4 k0 v29 b501
def Lf29_7 (a0 : Int) (a1 : Int) (N : Nat) (x4 : List (List Int)) (k0 : (List (List Int)) → Option ((List (List Int)) × Int)) : Lp (Nat × Int × (List (List Int))) (Nat) ((List (List Int)) × Int) := ⟨⟨[0, 1, 6, 28, 29], [501], [], []⟩, fun (_, v29, b501) => [.dat (iN a0), .dat (iN a1), .rs 501 (List.length b501), .dat (iN (List.length x4 : Int)), .dat (iN v29)], fun (_, _, b501) => [.nest 28 3 1 none (List.map (List.map iN) b501)], fun (n, v29, b501) => f29_7 a0 a1 N x4 k0 n v29 b501, fun (_, v29, _) m0 => [.dat (iN a0), .dat (iN a1), .rs 501 m0, .dat (iN (List.length x4 : Int)), .dat (iN v29)], fun (_, _, b501) _ => [.nest 28 3 1 none (List.map (List.map iN) b501)], fun (_, _, b501) => List.length b501, fun _ => rfl, fun _ => rfl⟩
theorem Ef29_7 {a0 a1 N x4 k0 n v29 b501} : (Lf29_7 a0 a1 N x4 k0).E (n, v29, b501) = f29_7 a0 a1 N x4 k0 n v29 b501 := rfl
def f29 (N : Nat) (a0 : Int) (a1 : Int) : Option ((List (List Int)) × Int) :=
 (f44 N (2 : Int) a0 (10 : Int)).bind fun x1 =>
 bif !x1 then (some ([], (4 : Int)))
 else ((f44 N (1 : Int) a1 (W (a0 - (1 : Int)))).bind fun x2 =>
 bif !x2 then (some ([], (4 : Int)))
 else ((f51 N a0 a1).bind fun x3 =>
 bif decide ((1 : Int) < x3) then (some ([], (12 : Int)))
 else ((mkS 24 [] a0 a0).bind fun x4 =>
 joinK f29_c15 fun k0 =>
 f29_7 a0 a1 N x4 k0 N (0 : Int) x4)))
def G29 (ds : List D) (d : D) : Prop := ∃ (N : Nat) (a0 : Int) (a1 : Int) (r : (List (List Int)) × Int), ds = [iN a0, iN a1] ∧ f29 N a0 a1 = some r ∧ d = .tup [sl_sl_iN r.1, iN r.2]
theorem G29.step {N : Nat} {a0 : Int} {a1 : Int} {ρ : Type} {A : ((List (List Int)) × Int) → Option ρ} {q : ρ} {ds : List D} {K : D → Prop} (hd : ds = [iN a0, iN a1]) (h : ∀ r, A r = some q → K (.tup [sl_sl_iN r.1, iN r.2])) (hF : (f29 N a0 a1).bind A = some q) : ∃ d, G29 ds d ∧ K d := by
  obtain ⟨r, hr, hA⟩ := bind_some hF
  exact ⟨_, ⟨N, a0, a1, r, hd, hr, rfl⟩, h r hA⟩
set_option maxRecDepth 20000 in
set_option maxHeartbeats 4000000 in
theorem P29 : PureOK Try.prog 29 G29 := by
  refine pure_of_vc (c := mkCtx tyTree [(51, true, lendPg [[0], [0]] G51), (44, true, lendPg [[0], [0], [0]] G44)]) rfl tyOK (ctx_lend (callable Try.func51 rfl rfl) P51 (ctx_lend (callable Try.func44 rfl rfl) P44 (ctx_nil))) [[1], [0]] 2 Try.func29 rfl rfl (by decide) (by kernel_rfl) ?_
  rintro ds d ⟨N, a0, a1, r, rfl, hF, rfl⟩ hok
  clear hok
  refine ⟨rfl, ?_⟩
  show vc _ _ _ _ ⟨[(0, .dat (iN a0)), (1, .dat (iN a1))], []⟩ _
  unfold f29 at hF
  repeat' (first
    | ((with_reducible first | refine q0 _ _ ?_ | refine q1 _ _ _ _ ?_ | refine q2 _ _ _ ?_); clear Q q0 q1 q2)
    | ((with_reducible first | refine seq_op ?hx (fun Q q0 q1 q2 => ?_) | refine draw_op ?hx (fun Q q0 q1 q2 => ?_) | refine seq_op0 ?hx (fun Q q0 q1 q2 => ?_) | refine draw_op0 ?hx (fun Q q0 q1 q2 => ?_)); (case hx => exact rfl); conv => whnf)
    | ((with_reducible first | refine seq_off ?hx ?_ | refine seq_off0 ?hx ?_ | refine draw_off ?hx ?_ | refine draw_off0 ?hx ?_ | refine k_blk_out ?hx ?_ | refine vc_condT ?hx ?_); (case hx => exact rfl))
    | ((with_reducible refine seq_id ?_); (first | ((first | refine seq_opK rfl ?hy (fun Q q0 q1 q2 => ?_) | refine seq_opK0 rfl ?hy (fun Q q0 q1 q2 => ?_)); (case hy => first | assumption | exact notT (by assumption) | exact rfl); conv => whnf) | ((first | refine seq_offK rfl ?hy ?_ | refine seq_offK0 rfl ?hy ?_); (case hy => first | assumption | exact notF (by assumption) | exact rfl)) | (revert hF; (with_reducible first | refine seq_opF ?hx ?_ ?_ | refine seq_opF0 ?hx ?_ ?_); (case hx => exact rfl); (intro hc hF Q q0 q1 q2; conv => whnf); rotate_left; (intro hc hF); rotate_right) | (revert hF; (with_reducible first | refine seq_opN ?hx ?_ ?_ | refine seq_opN0 ?hx ?_ ?_); (case hx => exact rfl); (intro hc hF); rotate_left; (intro hc hF Q q0 q1 q2; conv => whnf); rotate_right)))
    | ((with_reducible refine cond_id ?_); (first | ((refine condKT rfl ?hy ?_); (case hy => first | assumption | exact notT (by assumption) | exact rfl)) | ((refine condKF rfl ?hy ?_); (case hy => first | assumption | exact notF (by assumption) | exact rfl)) | (revert hF; (with_reducible refine condF ?hx ?_ ?_); (case hx => exact rfl); all_goals (intro hc hF))))
    | ((with_reducible refine seq_nil ?_); (first | ((with_reducible refine hR _ ?_); clear R hR) | ((with_reducible refine hL _ ?_); clear L hL)))
    | ((with_reducible refine draw_nil ?_); (with_reducible refine hR _ _ ?hx ?_); (case hx => kernel_rfl); (first | clear R hR | clear hR))
    | ((with_reducible first | refine int_step ?_ | refine len_step ?_ | refine idx2 (by assumption) ?_ | refine idx3 (by assumption) ?_); conv => whnf)
    | (with_reducible first | refine vc_block ?_ | refine vc_skip ?_ | refine vc_ret ?_ | refine vc_exit ?_ | refine vc_region (fun R hR => ?_) | refine k_seq_ret ?_ | refine k_seq_exit ?_ | refine k_blk ?_ | refine k_blk_ret ?_ | refine k_blk_here ?_ | refine k_loop_ret ?_ | refine k_loop_exit ?_)
    | ((with_reducible refine vc_seqN [15, 14] ?hx ?_); (case hx => exact rfl))
    | ((with_reducible refine vc_draw ?hx (fun R hR => ?_)); (case hx => exact rfl))
    | ((with_reducible refine seq_id' ?_); (with_reducible replace hF := chkJ (f := f29_c15) hF); revert hF; (refine Lp.cut0 Lf29_c15 f29_c15 15 rfl rfl ?_ ?_); (intro hF); rotate_left; (rintro b501 hF; dsimp only [Lf29_c15] at hF; unfold f29_c15 at hF); rotate_right)
    | ((with_reducible refine head_id ?_); (with_reducible replace hF := chkE (e := f29_c15 ..) hF); exact Lp.head Ef29_c15 hF _ ⟨_, rfl, rfl, rfl, rfl⟩ (by first | exact rfl | ((try dsimp only [Lf29_c15]); first | assumption | omega | (simp only [List.length_set]; done))))
    | ((with_reducible refine seq_id' ?_); (with_reducible replace hF := chkJ (f := f29_c14 _ _ _ _ _) hF); revert hF; (refine Lp.cut5 Lf29_c14 f29_c14 14 rfl rfl ?_ ?_); (intro hF); rotate_left; (rintro b501' hF; dsimp only [Lf29_c14] at hF; unfold f29_c14 at hF); rotate_right)
    | ((with_reducible refine head_id ?_); (with_reducible replace hF := chkE (e := f29_c14 ..) hF); exact Lp.head Ef29_c14 hF _ ⟨_, rfl, rfl, rfl, rfl⟩ (by first | exact rfl | ((try dsimp only [Lf29_c14]); first | assumption | omega | (simp only [List.length_set]; done))))
    | ((with_reducible refine loop_id ?_); (with_reducible replace hF := chkE (e := f29_10 ..) hF); revert hF; (refine Lp.loop Ef29_10 _ rfl ⟨_, rfl, rfl, rfl, rfl⟩ (by first | exact rfl | ((try dsimp only [Lf29_10]); first | assumption | omega | (simp only [List.length_set]; done))) (fun _ => rfl) ?_); rintro n ⟨v33, b501'⟩ hF; dsimp only [Lf29_10, f29_10] at hF; unfold f29_10b at hF)
    | ((with_reducible refine back_id ?_); (with_reducible replace hF := chkE (e := f29_10 ..) hF); exact Lp.back Ef29_10 hF _ ⟨_, rfl, rfl, rfl, rfl⟩ (by first | exact rfl | ((try dsimp only [Lf29_10]); first | assumption | omega | (simp only [List.length_set]; done))))
    | ((with_reducible refine loop_id ?_); (with_reducible replace hF := chkE (e := f29_7 ..) hF); revert hF; (refine Lp.loop Ef29_7 _ rfl ⟨_, rfl, rfl, rfl, rfl⟩ (by first | exact rfl | ((try dsimp only [Lf29_7]); first | assumption | omega | (simp only [List.length_set]; done))) (fun _ => rfl) ?_); rintro n ⟨v29, b501⟩ hF; dsimp only [Lf29_7, f29_7] at hF; unfold f29_7b at hF)
    | ((with_reducible refine back_id ?_); (with_reducible replace hF := chkE (e := f29_7 ..) hF); exact Lp.back Ef29_7 hF _ ⟨_, rfl, rfl, rfl, rfl⟩ (by first | exact rfl | ((try dsimp only [Lf29_7]); first | assumption | omega | (simp only [List.length_set]; done))))
    | (revert hF; (with_reducible refine G44.lend ?hx ?_); (case hx => exact rfl); intro v hF; conv => whnf)
    | (revert hF; (with_reducible refine G51.lend ?hx ?_); (case hx => exact rfl); intro v hF; conv => whnf)
    | (revert hF; (refine mkS_nest (d := iN) ?_); intro x hF; conv => whnf)
    | ((refine take_step (d := iN) (by assumption) ?_); conv => whnf)
    | ((with_reducible have hG := setx_fact hF); clear hF; (refine put_row (d := iN) hG ?hn ?ho (fun q hl hF => ?_)); (case hn => first | exact rfl | assumption | omega); (case ho => (rintro p h; first | cases h; done | (cases h; rfl))); clear hG; conv => whnf)
    | ((refine nest_all (e := sl_iN) (d := iN) (fun _ => rfl) ?hn ?_); (case hn => first | exact rfl | assumption | omega); conv => whnf)
    | (revert hF; (with_reducible refine idx1 ?hn ?_); (case hn => first | exact rfl | exact (List.length_map _) | assumption | omega | simp); intro x hx hF; conv => whnf)
    | ((with_reducible have hG := app_fact hF); clear hF; (first | ((refine app_row hG ?hn ?hs (fun q hF => ?_)); (case hn => first | exact rfl | assumption | omega); (case hs => exact rfl)) | ((refine app_nil (d := iN) hG ?hs (fun q hF => ?_)); (case hs => exact rfl)) | ((refine app_gen (d := iN) hG ?ho ?hn ?hs (fun q hF => ?_)); (case ho => exact rfl); (case hn => exact rfl); (case hs => exact rfl))); clear hG; conv => whnf)
    | ((refine row_all ?hn ?_); (case hn => first | exact rfl | (simp; done) | (simp; omega)); conv => whnf)
    | ((with_reducible refine le_step ?hn ?_); (case hn => first | exact rfl | assumption | omega); conv => whnf)
    | ((with_reducible have hG := setx_fact hF); clear hF; (refine setx_step hG ?hs (fun q hl hF => ?_)); (case hs => exact rfl); clear hG; conv => whnf)
    | ((refine ⟨?hx, ?_⟩); (case hx => exact ⟨rfl, Nat.le_of_ble_eq_true rfl, rfl⟩); conv => whnf)
    | ((with_reducible refine ex_step ?_); conv => whnf)
    | ((with_reducible have hG := chk_fact hF); clear hF; (refine ⟨?hx, ?_⟩); (case hx => (first | exact of_decide_eq_true hG.1 | exact hG.1)); have hF := hG.2; clear hG; conv => whnf)
    | ((with_reducible refine both_T ?hx ?_); (case hx => first | exact rfl | assumption | exact notT (by assumption)); conv => whnf)
    | ((with_reducible refine both_F ?hx ?_); (case hx => first | exact rfl | assumption | exact notF (by assumption)); conv => whnf)
    | (revert hF; (with_reducible refine ite_step ?_ ?_) <;> (intro hc hF; conv => whnf))
    | ((with_reducible refine vc_condF ?hx ?_); (case hx => exact rfl))
    | (show retD _ _ _ _ _ _; conv => whnf)
    | ((refine ⟨?hx, trivial⟩); (case hx => (cases hF; exact rfl)))
    | ((refine ⟨?hx, ?_⟩); (case hx => decide); conv => whnf)
    | with_reducible refine k_seq ?_
    | (have hF : (none : Option _) = some _ := hF; cases hF))
end
end Go.Vc
namespace Go.Vc
open Go.Proofs
set_option linter.unusedVariables false
set_option linter.unnecessarySimpa false
set_option linter.unusedSimpArgs false
section
variable {c : Ctx} {p nid : Nat} {a b : Code} {st : St} {K : Ex → St → Prop}
def f28_c17 : Option ((List Int) × Bool) :=
 some ([], false)
def Lf28_c17 : Lp (Unit) Unit ((List Int) × Bool) := lp0 ⟨[], [], [], []⟩ (fun _ => []) (fun _ => []) (fun _ => f28_c17)
theorem Ef28_c17 : (Lf28_c17).E () = f28_c17 := rfl
def f28_c13 (a0 : Palette) (a1 : Int) (x2 : Int) (x3 : List Int) (v7' : List Int) (v8' : List (List Int)) (v39 : Int) (b100' : List (Int × Bool)) (r10 : (List Int) → (List (List Int)) → Int → (List (Int × Bool)) → Option ((List Int) × Bool)) (v12 : Int) : Option ((List Int) × Bool) :=
 (some (lookK false v12 (b100'))).bind fun x6 =>
 bif !x6.1 then ((some (setK v12 true (b100'))).bind fun x7 =>
 (app 1 (v7') [v12]).bind fun x8 =>
 (subC x3 0 (List.length x3 : Int)).bind fun x9 =>
 (appC 8 x9 [v39]).bind fun x10 =>
 (app 24 (v8') [x10]).bind fun x11 =>
 r10 x8 x11 (W (v39 + (1 : Int))) x7)
 else (r10 (v7') (v8') (W (v39 + (1 : Int))) (b100'))
def Lf28_c13 (a0 : Palette) (a1 : Int) (x2 : Int) (x3 : List Int) (v7' : List Int) (v8' : List (List Int)) (v39 : Int) (b100' : List (Int × Bool)) (r10 : (List Int) → (List (List Int)) → Int → (List (Int × Bool)) → Option ((List Int) × Bool)) : Lp (Int) (Nat × Nat) ((List Int) × Bool) := ⟨⟨[1, 2, 6, 7, 8, 9, 10, 11, 12, 38, 39], [0, 100, 90007, 90008], [], []⟩, fun v12 => [.dat (u8N a1), .ptr 0 0, .mp 100, .rs 90007 (List.length (v7')), .rs 90008 (List.length (v8')), .dat (u8N x2), .dat (sl_iN x3), .dat (iN v39), .dat (u8N v12), .dat (iN (List.length a0.Inks : Int)), .dat (iN v39)], fun _ => [.box [.dat (iN a0.Colours), .dat (sl_sl_iN a0.Inks)], .mp (encM u8N bN (b100')), .row 62 1 (List.map u8N (v7')), .row 28 1 (List.map sl_iN (v8'))], fun v12 => f28_c13 a0 a1 x2 x3 v7' v8' v39 b100' r10 v12, fun v12 (m0, m1) => [.dat (u8N a1), .ptr 0 0, .mp 100, .rs 90007 m0, .rs 90008 m1, .dat (u8N x2), .dat (sl_iN x3), .dat (iN v39), .dat (u8N v12), .dat (iN (List.length a0.Inks : Int)), .dat (iN v39)], fun _ (_, _) => [.box [.dat (iN a0.Colours), .dat (sl_sl_iN a0.Inks)], .mp (encM u8N bN (b100')), .row 62 1 (List.map u8N (v7')), .row 28 1 (List.map sl_iN (v8'))], fun _ => (List.length (v7'), List.length (v8')), fun _ => rfl, fun _ => rfl⟩
theorem Ef28_c13 {a0 a1 x2 x3 v7' v8' v39 b100' r10 v12} : (Lf28_c13 a0 a1 x2 x3 v7' v8' v39 b100' r10).E v12 = f28_c13 a0 a1 x2 x3 v7' v8' v39 b100' r10 v12 := rfl
def f28_10b (r10 : (List Int) → (List (List Int)) → Int → (List (Int × Bool)) → Option ((List Int) × Bool)) (a0 : Palette) (a1 : Int) (N : Nat) (r4 : (List Int) → (List (List Int)) → (List (Int × Bool)) → Option ((List Int) × Bool)) (x2 : Int) (x3 : List Int) (v7' : List Int) (v8' : List (List Int)) (v39 : Int) (b100' : List (Int × Bool)) : Option ((List Int) × Bool) :=
 bif decide (v39 < (List.length a0.Inks : Int)) then (joinK (f28_c13 a0 a1 x2 x3 v7' v8' v39 b100' r10) fun k1 =>
 (f19 N a0 v39).bind fun x12 =>
 match x12 with
 | .nil => none
 | .c81 x13 => ((f25 N x2 (I56.c81 x13)).bind fun x14 =>
 k1 x14)
 | .c82 x15 => ((f25 N x2 (I56.c82 x15)).bind fun x16 =>
 k1 x16))
 else (r4 (v7') (v8') (b100'))
def f28_10 (a0 : Palette) (a1 : Int) (N : Nat) (r4 : (List Int) → (List (List Int)) → (List (Int × Bool)) → Option ((List Int) × Bool)) (x2 : Int) (x3 : List Int) : Nat → (List Int) → (List (List Int)) → Int → (List (Int × Bool)) → Option ((List Int) × Bool)
  | 0, _, _, _, _ => none
  | n + 1, v7', v8', v39, b100' => f28_10b (f28_10 a0 a1 N r4 x2 x3 n) a0 a1 N r4 x2 x3 v7' v8' v39 b100'
def Lf28_10 (a0 : Palette) (a1 : Int) (N : Nat) (r4 : (List Int) → (List (List Int)) → (List (Int × Bool)) → Option ((List Int) × Bool)) (x2 : Int) (x3 : List Int) : Lp (Nat × (List Int) × (List (List Int)) × Int × (List (Int × Bool))) (Nat × Nat) ((List Int) × Bool) := ⟨⟨[1, 2, 6, 7, 8, 9, 10, 38, 39], [0, 100, 90007, 90008], [(.slot 7, 90007, 62, 1), (.slot 8, 90008, 28, 1)], []⟩, fun (_, v7', v8', v39, _) => [.dat (u8N a1), .ptr 0 0, .mp 100, .rs 90007 (List.length (v7')), .rs 90008 (List.length (v8')), .dat (u8N x2), .dat (sl_iN x3), .dat (iN (List.length a0.Inks : Int)), .dat (iN v39)], fun (_, v7', v8', _, b100') => [.box [.dat (iN a0.Colours), .dat (sl_sl_iN a0.Inks)], .mp (encM u8N bN (b100')), .row 62 1 (List.map u8N (v7')), .row 28 1 (List.map sl_iN (v8'))], fun (n, v7', v8', v39, b100') => f28_10 a0 a1 N r4 x2 x3 n v7' v8' v39 b100', fun (_, _, _, v39, _) (m0, m1) => [.dat (u8N a1), .ptr 0 0, .mp 100, .rs 90007 m0, .rs 90008 m1, .dat (u8N x2), .dat (sl_iN x3), .dat (iN (List.length a0.Inks : Int)), .dat (iN v39)], fun (_, v7', v8', _, b100') (_, _) => [.box [.dat (iN a0.Colours), .dat (sl_sl_iN a0.Inks)], .mp (encM u8N bN (b100')), .row 62 1 (List.map u8N (v7')), .row 28 1 (List.map sl_iN (v8'))], fun (_, v7', v8', _, _) => (List.length (v7'), List.length (v8')), fun _ => rfl, fun _ => rfl⟩
theorem Ef28_10 {a0 a1 N r4 x2 x3 n v7' v8' v39 b100'} : (Lf28_10 a0 a1 N r4 x2 x3).E (n, v7', v8', v39, b100') = f28_10 a0 a1 N r4 x2 x3 n v7' v8' v39 b100' := rfl
def f28_4b (r4 : (List Int) → (List (List Int)) → (List (Int × Bool)) → Option ((List Int) × Bool)) (a0 : Palette) (a1 : Int) (N : Nat) (k0 : Option ((List Int) × Bool)) (v7 : List Int) (v8 : List (List Int)) (b100 : List (Int × Bool)) : Option ((List Int) × Bool) :=
 bif decide ((0 : Int) < (List.length v7 : Int)) then ((ix v7 (0 : Int)).bind fun x2 =>
 (ix v8 (0 : Int)).bind fun x3 =>
 (subW v7 (1 : Int) (List.length v7 : Int)).bind fun x4 =>
 (subW v8 (1 : Int) (List.length v8 : Int)).bind fun x5 =>
 bif decide ((bitsI .and .u8 x2 a1) = a1) then (some (x3, true))
 else (f28_10 a0 a1 N r4 x2 x3 N x4 x5 (0 : Int) b100))
 else k0
def f28_4 (a0 : Palette) (a1 : Int) (N : Nat) (k0 : Option ((List Int) × Bool)) : Nat → (List Int) → (List (List Int)) → (List (Int × Bool)) → Option ((List Int) × Bool)
  | 0, _, _, _ => none
  | n + 1, v7, v8, b100 => f28_4b (f28_4 a0 a1 N k0 n) a0 a1 N k0 v7 v8 b100
def Lf28_4 (a0 : Palette) (a1 : Int) (N : Nat) (k0 : Option ((List Int) × Bool)) : Lp (Nat × (List Int) × (List (List Int)) × (List (Int × Bool))) (Nat × Nat) ((List Int) × Bool) := ⟨⟨[1, 2, 6, 7, 8], [0, 100, 90007, 90008], [(.slot 7, 90007, 62, 1), (.slot 8, 90008, 28, 1)], []⟩, fun (_, v7, v8, _) => [.dat (u8N a1), .ptr 0 0, .mp 100, .rs 90007 (List.length v7), .rs 90008 (List.length v8)], fun (_, v7, v8, b100) => [.box [.dat (iN a0.Colours), .dat (sl_sl_iN a0.Inks)], .mp (encM u8N bN b100), .row 62 1 (List.map u8N v7), .row 28 1 (List.map sl_iN v8)], fun (n, v7, v8, b100) => f28_4 a0 a1 N k0 n v7 v8 b100, fun (_, _, _, _) (m0, m1) => [.dat (u8N a1), .ptr 0 0, .mp 100, .rs 90007 m0, .rs 90008 m1], fun (_, v7, v8, b100) (_, _) => [.box [.dat (iN a0.Colours), .dat (sl_sl_iN a0.Inks)], .mp (encM u8N bN b100), .row 62 1 (List.map u8N v7), .row 28 1 (List.map sl_iN v8)], fun (_, v7, v8, _) => (List.length v7, List.length v8), fun _ => rfl, fun _ => rfl⟩
theorem Ef28_4 {a0 a1 N k0 n v7 v8 b100} : (Lf28_4 a0 a1 N k0).E (n, v7, v8, b100) = f28_4 a0 a1 N k0 n v7 v8 b100 := rfl
def f28 (N : Nat) (a0 : Palette) (a1 : Int) : Option ((List Int) × Bool) :=
 (some (setK (1 : Int) true [])).bind fun x1 =>
 joinK f28_c17 fun k0 =>
 f28_4 a0 a1 N k0 N [(1 : Int)] [[]] x1
def G28 (ds : List D) (d : D) : Prop := ∃ (N : Nat) (a0 : Palette) (a1 : Int) (r : (List Int) × Bool), ds = [Palette.d a0, u8N a1] ∧ f28 N a0 a1 = some r ∧ d = .tup [sl_iN r.1, bN r.2]
theorem G28.step {N : Nat} {a0 : Palette} {a1 : Int} {ρ : Type} {A : ((List Int) × Bool) → Option ρ} {q : ρ} {ds : List D} {K : D → Prop} (hd : ds = [Palette.d a0, u8N a1]) (h : ∀ r, A r = some q → K (.tup [sl_iN r.1, bN r.2])) (hF : (f28 N a0 a1).bind A = some q) : ∃ d, G28 ds d ∧ K d := by
  obtain ⟨r, hr, hA⟩ := bind_some hF
  exact ⟨_, ⟨N, a0, a1, r, hd, hr, rfl⟩, h r hA⟩
set_option maxRecDepth 20000 in
set_option maxHeartbeats 4000000 in
theorem P28 : PureOK Try.prog 28 G28 := by
  refine pure_of_vc (c := mkCtx tyTree [(50, false, inlPg (mkCtx tyTree []) Try.f50), (25, true, lendPg [[0], [0]] G25), (19, true, purePg [[0, 1], [0]] G19)]) rfl tyOK (ctx_eff (callable Try.func50 rfl rfl) (CallOK.inl rfl tyOK (ctx_nil) Try.func50 (by kernel_rfl)) (ctx_lend (callable Try.func25 rfl rfl) P25 (ctx_cons (callable Try.func19 rfl rfl) P19 (ctx_nil)))) [[1], [0]] 2 Try.func28 rfl rfl (by decide) (by kernel_rfl) ?_
  rintro ds d ⟨N, a0, a1, r, rfl, hF, rfl⟩ hok
  clear hok
  refine ⟨rfl, ?_⟩
  show vc _ _ _ _ ⟨[(0, .dat (Palette.d a0)), (1, .dat (u8N a1))], []⟩ _
  unfold f28 at hF
  repeat' (first
    | ((with_reducible first | refine q0 _ _ ?_ | refine q1 _ _ _ _ ?_ | refine q2 _ _ _ ?_); clear Q q0 q1 q2)
    | ((with_reducible first | refine seq_op ?hx (fun Q q0 q1 q2 => ?_) | refine draw_op ?hx (fun Q q0 q1 q2 => ?_) | refine seq_op0 ?hx (fun Q q0 q1 q2 => ?_) | refine draw_op0 ?hx (fun Q q0 q1 q2 => ?_)); (case hx => exact rfl); conv => whnf)
    | ((with_reducible refine cond_id ?_); (first | ((refine condKT rfl ?hy ?_); (case hy => first | assumption | exact notT (by assumption) | exact rfl)) | ((refine condKF rfl ?hy ?_); (case hy => first | assumption | exact notF (by assumption) | exact rfl)) | (revert hF; (with_reducible refine condF ?hx ?_ ?_); (case hx => exact rfl); all_goals (intro hc hF))))
    | ((with_reducible refine seq_nil ?_); (first | ((with_reducible refine hR _ ?_); clear R hR) | ((with_reducible refine hL _ ?_); clear L hL)))
    | ((with_reducible refine draw_nil ?_); (with_reducible refine hR _ _ ?hx ?_); (case hx => kernel_rfl); (first | clear R hR | clear hR))
    | ((with_reducible first | refine int_step ?_ | refine len_step ?_ | refine idx2 (by assumption) ?_ | refine idx3 (by assumption) ?_); conv => whnf)
    | (with_reducible first | refine vc_block ?_ | refine vc_skip ?_ | refine vc_ret ?_ | refine vc_exit ?_ | refine vc_region (fun R hR => ?_) | refine k_seq_ret ?_ | refine k_seq_exit ?_ | refine k_blk ?_ | refine k_blk_ret ?_ | refine k_blk_here ?_ | refine k_loop_ret ?_ | refine k_loop_exit ?_)
    | ((with_reducible refine vc_seqN [17, 13] ?hx ?_); (case hx => exact rfl))
    | ((with_reducible refine vc_draw ?hx (fun R hR => ?_)); (case hx => exact rfl))
    | ((with_reducible refine seq_id' ?_); (with_reducible replace hF := chkJ (f := f28_c17) hF); revert hF; (refine Lp.cut0 Lf28_c17 f28_c17 17 rfl rfl ?_ ?_); (intro hF); rotate_left; (rintro _ hF; dsimp only [Lf28_c17] at hF; unfold f28_c17 at hF); rotate_right)
    | ((with_reducible refine head_id ?_); (with_reducible replace hF := chkE (e := f28_c17) hF); exact Lp.head Ef28_c17 hF () ⟨_, rfl, rfl, rfl, rfl⟩ rfl)
    | ((with_reducible refine seq_id' ?_); (with_reducible replace hF := chkJ (f := f28_c13 _ _ _ _ _ _ _ _ _) hF); revert hF; (refine Lp.cut9 Lf28_c13 f28_c13 13 rfl rfl ?_ ?_); (intro hF); rotate_left; (rintro v12 hF; dsimp only [Lf28_c13] at hF; unfold f28_c13 at hF); rotate_right)
    | ((with_reducible refine head_id ?_); (with_reducible replace hF := chkE (e := f28_c13 ..) hF); exact Lp.head Ef28_c13 hF (_, _) ⟨_, rfl, rfl, rfl, rfl⟩ (pr2 (by first | exact rfl | ((try dsimp only [Lf28_c13]); first | assumption | omega | (simp only [List.length_set]; done))) (by first | exact rfl | ((try dsimp only [Lf28_c13]); first | assumption | omega | (simp only [List.length_set]; done)))))
    | ((with_reducible refine loop_id ?_); (with_reducible replace hF := chkE (e := f28_10 ..) hF); revert hF; (refine Lp.loop Ef28_10 (_, _) rfl ⟨_, rfl, rfl, rfl, rfl⟩ (pr2 (by first | exact rfl | ((try dsimp only [Lf28_10]); first | assumption | omega | (simp only [List.length_set]; done))) (by first | exact rfl | ((try dsimp only [Lf28_10]); first | assumption | omega | (simp only [List.length_set]; done)))) (fun _ => rfl) ?_); rintro n ⟨v7', v8', v39, b100'⟩ hF; dsimp only [Lf28_10, f28_10] at hF; unfold f28_10b at hF)
    | ((with_reducible refine back_id ?_); (with_reducible replace hF := chkE (e := f28_10 ..) hF); exact Lp.back Ef28_10 hF (_, _) ⟨_, rfl, rfl, rfl, rfl⟩ (pr2 (by first | exact rfl | ((try dsimp only [Lf28_10]); first | assumption | omega | (simp only [List.length_set]; done))) (by first | exact rfl | ((try dsimp only [Lf28_10]); first | assumption | omega | (simp only [List.length_set]; done)))))
    | ((with_reducible refine loop_id ?_); (with_reducible replace hF := chkE (e := f28_4 ..) hF); revert hF; (refine Lp.loop Ef28_4 (_, _) rfl ⟨_, rfl, rfl, rfl, rfl⟩ (pr2 (by first | exact rfl | ((try dsimp only [Lf28_4]); first | assumption | omega | (simp only [List.length_set]; done))) (by first | exact rfl | ((try dsimp only [Lf28_4]); first | assumption | omega | (simp only [List.length_set]; done)))) (fun _ => rfl) ?_); rintro n ⟨v7, v8, b100⟩ hF; dsimp only [Lf28_4, f28_4] at hF; unfold f28_4b at hF)
    | ((with_reducible refine back_id ?_); (with_reducible replace hF := chkE (e := f28_4 ..) hF); exact Lp.back Ef28_4 hF (_, _) ⟨_, rfl, rfl, rfl, rfl⟩ (pr2 (by first | exact rfl | ((try dsimp only [Lf28_4]); first | assumption | omega | (simp only [List.length_set]; done))) (by first | exact rfl | ((try dsimp only [Lf28_4]); first | assumption | omega | (simp only [List.length_set]; done)))))
    | (revert hF; (with_reducible refine G19.step ?hx ?_); (case hx => exact rfl); intro v hF; conv => whnf)
    | (revert hF; (with_reducible refine G25.lend ?hx ?_); (case hx => exact rfl); intro v hF; conv => whnf)
    | ((rename I56 => xi); cases xi <;> (dsimp only at hF; (try (conv => whnf))))
    | (revert hF; (refine look_step (eK := u8N) (eV := bN) u8N_inj ?hk ?hz ?hd ?he ?_); (case hk => exact fun _ => rfl); (case hz => exact rfl); (case hd => exact rfl); (case he => exact rfl); intro x hF; conv => whnf)
    | (revert hF; (refine put_step (eK := u8N) (eV := bN) u8N_inj ?hk ?hv ?hd ?he ?_); (case hk => exact fun _ => rfl); (case hv => exact rfl); (case hd => exact rfl); (case he => exact rfl); intro x hF; conv => whnf)
    | ((with_reducible first | refine k_blk_out ?hx ?_ | refine vc_condT ?hx ?_); (case hx => exact rfl))
    | (revert hF; (with_reducible refine idx1 ?hn ?_); (case hn => first | exact rfl | exact (List.length_map _) | assumption | omega | simp); intro x hx hF; conv => whnf)
    | ((with_reducible have hG := subW_fact hF); clear hF; (refine Or.inl ?_); (conv => whnf); (try ((with_reducible refine ex_step ?_); (conv => whnf))); (refine slide_step hG ?hn ?hb (fun q hF => ?_); (case hn => first | exact rfl | assumption | omega); (case hb => first | exact rfl | omega | (simp only [*]; done))); clear hG; conv => whnf)
    | ((with_reducible have hG := subC_fact hF); clear hF; (refine clip_step hG ?hb (fun q hF => ?_)); (case hb => first | exact rfl | omega); clear hG; conv => whnf)
    | ((with_reducible have hG := appC_fact hF); clear hF; (refine app_clip hG ?hs ?hne (fun q hF => ?_)); (case hs => exact rfl); (case hne => simp); clear hG; conv => whnf)
    | ((with_reducible have hG := app_fact hF); clear hF; (first | ((refine app_row hG ?hn ?hs (fun q hF => ?_)); (case hn => first | exact rfl | assumption | omega); (case hs => exact rfl)) | ((refine app_nil (d := iN) hG ?hs (fun q hF => ?_)); (case hs => exact rfl)) | ((refine app_gen (d := iN) hG ?ho ?hn ?hs (fun q hF => ?_)); (case ho => exact rfl); (case hn => exact rfl); (case hs => exact rfl))| ((refine app_nil (d := sl_iN) hG ?hs (fun q hF => ?_)); (case hs => exact rfl)) | ((refine app_gen (d := sl_iN) hG ?ho ?hn ?hs (fun q hF => ?_)); (case ho => exact rfl); (case hn => exact rfl); (case hs => exact rfl))| ((refine app_nil (d := u8N) hG ?hs (fun q hF => ?_)); (case hs => exact rfl)) | ((refine app_gen (d := u8N) hG ?ho ?hn ?hs (fun q hF => ?_)); (case ho => exact rfl); (case hn => exact rfl); (case hs => exact rfl))); clear hG; conv => whnf)
    | ((refine row_all ?hn ?_); (case hn => first | exact rfl | (simp; done) | (simp; omega)); conv => whnf)
    | ((with_reducible refine le_step ?hn ?_); (case hn => first | exact rfl | assumption | omega); conv => whnf)
    | ((refine ⟨?hx, ?_⟩); (case hx => exact ⟨rfl, Nat.le_of_ble_eq_true rfl, rfl⟩); conv => whnf)
    | ((with_reducible refine ex_step ?_); conv => whnf)
    | ((with_reducible refine both_T ?hx ?_); (case hx => first | exact rfl | assumption | exact notT (by assumption)); conv => whnf)
    | ((with_reducible refine both_F ?hx ?_); (case hx => first | exact rfl | assumption | exact notF (by assumption)); conv => whnf)
    | (revert hF; (with_reducible refine ite_step ?_ ?_) <;> (intro hc hF; conv => whnf))
    | ((with_reducible refine vc_condF ?hx ?_); (case hx => exact rfl))
    | (show retD _ _ _ _ _ _; conv => whnf)
    | ((refine inl_step ?ha ?hb ?hc rfl ?_); (case ha => exact rfl); (case hb => omega); (case hc => exact Nat.le_of_ble_eq_true rfl))
    | (show Kinl _ _ _ _ _ _ _; conv => whnf)
    | ((with_reducible refine kinl_step ?ha ?hb ?_); (case ha => exact rfl); (case hb => exact rfl); conv => whnf)
    | ((refine ⟨?hx, trivial⟩); (case hx => (cases hF; exact rfl)))
    | ((refine ⟨?hx, ?_⟩); (case hx => decide); conv => whnf)
    | with_reducible refine k_seq ?_
    | (have hF : (none : Option _) = some _ := hF; cases hF))
end
end Go.Vc
namespace Go.Vc
open Go.Proofs
set_option linter.unusedVariables false
set_option linter.unnecessarySimpa false
set_option linter.unusedSimpArgs false
section
variable {c : Ctx} {p nid : Nat} {a b : Code} {st : St} {K : Ex → St → Prop}
def f52_c12 (out6 : Int) : Option (Int × Int) :=
 some (out6, (0 : Int))
def Lf52_c12 : Lp (Int) Unit (Int × Int) := lp0 ⟨[6], [], [], []⟩ (fun out6 => [.dat (u8N out6)]) (fun _ => []) (fun out6 => f52_c12 out6)
theorem Ef52_c12 {out6} : (Lf52_c12).E out6 = f52_c12 out6 := rfl
def f52_4b (r4 : Int → Int → Int → Option (Int × Int)) (a0 : Palette) (a1 : List Int) (N : Nat) (k0 : Int → Option (Int × Int)) (out6 : Int) (last7 : Int) (v12 : Int) : Option (Int × Int) :=
 bif decide (v12 < (List.length a1 : Int)) then ((ix a1 v12).bind fun x1 =>
 (f27 N (0 : Int) x1 (W (a0.Colours - (1 : Int)))).bind fun x2 =>
 bif !x2 then (some ((0 : Int), (5 : Int)))
 else (bif decide (x1 ≤ last7) then (some ((0 : Int), (7 : Int)))
 else ((chk (decide (0 ≤ x1))).bind fun _ =>
 r4 (bitsI .or .u8 out6 (Wk .u8 ((1 : Int) * 2 ^ (min (Int.toNat x1) 8)))) x1 (W (v12 + (1 : Int))))))
 else (k0 out6)
def f52_4 (a0 : Palette) (a1 : List Int) (N : Nat) (k0 : Int → Option (Int × Int)) : Nat → Int → Int → Int → Option (Int × Int)
  | 0, _, _, _ => none
  | n + 1, out6, last7, v12 => f52_4b (f52_4 a0 a1 N k0 n) a0 a1 N k0 out6 last7 v12
def Lf52_4 (a0 : Palette) (a1 : List Int) (N : Nat) (k0 : Int → Option (Int × Int)) : Lp (Nat × Int × Int × Int) Unit (Int × Int) := lp0 ⟨[2, 6, 7, 10, 11, 12], [0], [], []⟩ (fun (_, out6, last7, v12) => [.ptr 0 0, .dat (u8N out6), .dat (iN last7), .dat (sl_iN a1), .dat (iN (List.length a1 : Int)), .dat (iN v12)]) (fun (_, _, _, _) => [.box [.dat (iN a0.Colours), .dat (sl_sl_iN a0.Inks)]]) (fun (n, out6, last7, v12) => f52_4 a0 a1 N k0 n out6 last7 v12)
theorem Ef52_4 {a0 a1 N k0 n out6 last7 v12} : (Lf52_4 a0 a1 N k0).E (n, out6, last7, v12) = f52_4 a0 a1 N k0 n out6 last7 v12 := rfl
def f52 (N : Nat) (a0 : Palette) (a1 : List Int) : Option (Int × Int) :=
 joinK f52_c12 fun k0 =>
 f52_4 a0 a1 N k0 N (0 : Int) (-1 : Int) (0 : Int)
def G52 (ds : List D) (d : D) : Prop := ∃ (N : Nat) (a0 : Palette) (a1 : List Int) (r : Int × Int), ds = [Palette.d a0, sl_iN a1] ∧ f52 N a0 a1 = some r ∧ d = .tup [u8N r.1, iN r.2]
theorem G52.lend {N : Nat} {a0 : Palette} {a1 : List Int} {ρ : Type} {A : (Int × Int) → Option ρ} {q : ρ} {ds : List D} {K : D → Prop} (hd : ds = [Palette.d a0, sl_iN a1]) (h : ∀ r, A r = some q → K (.tup [u8N r.1, iN r.2])) (hF : (f52 N a0 a1).bind A = some q) : ∃ d, (G52 ds d ∧ d.flatB = true) ∧ K d := by
  obtain ⟨r, hr, hA⟩ := bind_some hF
  exact ⟨_, ⟨⟨N, a0, a1, r, hd, hr, rfl⟩, rfl⟩, h r hA⟩
set_option maxRecDepth 20000 in
set_option maxHeartbeats 4000000 in
theorem P52 : PureOK Try.prog 52 G52 := by
  refine pure_of_vc (c := mkCtx tyTree [(27, true, lendPg [[0], [0], [0]] G27)]) rfl tyOK (ctx_lend (callable Try.func27 rfl rfl) P27 (ctx_nil)) [[0], [0]] 2 Try.func52 rfl rfl (by decide) (by kernel_rfl) ?_
  rintro ds d ⟨N, a0, a1, r, rfl, hF, rfl⟩ hok
  clear hok
  refine ⟨rfl, ?_⟩
  show vc _ _ _ _ ⟨[(0, .dat (Palette.d a0)), (1, .dat (sl_iN a1))], []⟩ _
  unfold f52 at hF
  repeat' (first
    | ((with_reducible first | refine q0 _ _ ?_ | refine q1 _ _ _ _ ?_ | refine q2 _ _ _ ?_); clear Q q0 q1 q2)
    | ((with_reducible first | refine seq_op ?hx (fun Q q0 q1 q2 => ?_)); (case hx => exact rfl); conv => whnf)
    | ((with_reducible refine cond_id ?_); (first | ((refine condKT rfl ?hy ?_); (case hy => first | assumption | exact notT (by assumption) | exact rfl)) | ((refine condKF rfl ?hy ?_); (case hy => first | assumption | exact notF (by assumption) | exact rfl)) | (revert hF; (with_reducible refine condF ?hx ?_ ?_); (case hx => exact rfl); all_goals (intro hc hF))))
    | ((with_reducible refine seq_nil ?_); (first | ((with_reducible refine hR _ ?_); clear R hR) | ((with_reducible refine hL _ ?_); clear L hL)))
    | ((with_reducible first | refine int_step ?_ | refine len_step ?_ | refine idx2 (by assumption) ?_ | refine idx3 (by assumption) ?_); conv => whnf)
    | (with_reducible first | refine vc_block ?_ | refine vc_skip ?_ | refine vc_ret ?_ | refine vc_exit ?_ | refine vc_region (fun R hR => ?_) | refine k_seq_ret ?_ | refine k_seq_exit ?_ | refine k_blk ?_ | refine k_blk_ret ?_ | refine k_blk_here ?_ | refine k_loop_ret ?_ | refine k_loop_exit ?_)
    | ((with_reducible refine vc_seqN [12] ?hx ?_); (case hx => exact rfl))
    | ((with_reducible refine seq_id' ?_); (with_reducible replace hF := chkJ (f := f52_c12) hF); revert hF; (refine Lp.cut0 Lf52_c12 f52_c12 12 rfl rfl ?_ ?_); (intro hF); rotate_left; (rintro out6 hF; dsimp only [Lf52_c12] at hF; unfold f52_c12 at hF); rotate_right)
    | ((with_reducible refine head_id ?_); (with_reducible replace hF := chkE (e := f52_c12 ..) hF); exact Lp.head Ef52_c12 hF () ⟨_, rfl, rfl, rfl, rfl⟩ rfl)
    | ((with_reducible refine loop_id ?_); (with_reducible replace hF := chkE (e := f52_4 ..) hF); revert hF; (refine Lp.loop Ef52_4 () rfl ⟨_, rfl, rfl, rfl, rfl⟩ rfl (fun _ => rfl) ?_); rintro n ⟨out6, last7, v12⟩ hF; dsimp only [Lf52_4, f52_4] at hF; unfold f52_4b at hF)
    | ((with_reducible refine back_id ?_); (with_reducible replace hF := chkE (e := f52_4 ..) hF); exact Lp.back Ef52_4 hF () ⟨_, rfl, rfl, rfl, rfl⟩ rfl)
    | (revert hF; (with_reducible refine G27.lend ?hx ?_); (case hx => exact rfl); intro v hF; conv => whnf)
    | ((with_reducible first | refine k_blk_out ?hx ?_ | refine vc_condT ?hx ?_); (case hx => exact rfl))
    | (revert hF; (with_reducible refine idx1 ?hn ?_); (case hn => first | exact rfl | exact (List.length_map _) | assumption | omega | simp); intro x hx hF; conv => whnf)
    | ((refine row_all ?hn ?_); (case hn => first | exact rfl | (simp; done) | (simp; omega)); conv => whnf)
    | ((with_reducible refine le_step ?hn ?_); (case hn => first | exact rfl | assumption | omega); conv => whnf)
    | ((refine ⟨?hx, ?_⟩); (case hx => exact ⟨rfl, Nat.le_of_ble_eq_true rfl, rfl⟩); conv => whnf)
    | ((with_reducible refine ex_step ?_); conv => whnf)
    | ((with_reducible have hG := chk_fact hF); clear hF; (refine ⟨?hx, ?_⟩); (case hx => (first | exact of_decide_eq_true hG.1 | exact hG.1)); have hF := hG.2; clear hG; conv => whnf)
    | ((with_reducible refine both_T ?hx ?_); (case hx => first | exact rfl | assumption | exact notT (by assumption)); conv => whnf)
    | ((with_reducible refine both_F ?hx ?_); (case hx => first | exact rfl | assumption | exact notF (by assumption)); conv => whnf)
    | (revert hF; (with_reducible refine ite_step ?_ ?_) <;> (intro hc hF; conv => whnf))
    | ((with_reducible refine vc_condF ?hx ?_); (case hx => exact rfl))
    | (show retD _ _ _ _ _ _; conv => whnf)
    | ((refine ⟨?hx, trivial⟩); (case hx => (cases hF; exact rfl)))
    | ((refine ⟨?hx, ?_⟩); (case hx => decide); conv => whnf)
    | with_reducible refine k_seq ?_
    | (have hF : (none : Option _) = some _ := hF; cases hF))
end
end Go.Vc
namespace Go.Vc
open Go.Proofs
set_option linter.unusedVariables false
set_option linter.unnecessarySimpa false
set_option linter.unusedSimpArgs false
section
variable {c : Ctx} {p nid : Nat} {a b : Code} {st : St} {K : Ex → St → Prop}
def f30 (N : Nat) (a0 : Palette) (a1 : List Int) : Option ((List Int) × Int) :=
 (f24 N a0).bind fun x1 =>
 bif decide (¬ x1 = (0 : Int)) then (some ([], x1))
 else ((f52 N a0 a1).bind fun x2 =>
 bif decide (¬ x2.2 = (0 : Int)) then (some ([], x2.2))
 else ((f28 N a0 x2.1).bind fun x3 =>
 bif !x3.2 then (some ([], (14 : Int)))
 else (some (x3.1, (0 : Int)))))
def G30 (ds : List D) (d : D) : Prop := ∃ (N : Nat) (a0 : Palette) (a1 : List Int) (r : (List Int) × Int), ds = [Palette.d a0, sl_iN a1] ∧ f30 N a0 a1 = some r ∧ d = .tup [sl_iN r.1, iN r.2]
theorem G30.step {N : Nat} {a0 : Palette} {a1 : List Int} {ρ : Type} {A : ((List Int) × Int) → Option ρ} {q : ρ} {ds : List D} {K : D → Prop} (hd : ds = [Palette.d a0, sl_iN a1]) (h : ∀ r, A r = some q → K (.tup [sl_iN r.1, iN r.2])) (hF : (f30 N a0 a1).bind A = some q) : ∃ d, G30 ds d ∧ K d := by
  obtain ⟨r, hr, hA⟩ := bind_some hF
  exact ⟨_, ⟨N, a0, a1, r, hd, hr, rfl⟩, h r hA⟩
set_option maxRecDepth 20000 in
set_option maxHeartbeats 4000000 in
theorem P30 : PureOK Try.prog 30 G30 := by
  refine pure_of_vc (c := mkCtx tyTree [(52, true, lendPg [[0, 1], [1]] G52), (28, true, purePg [[0, 1], [0]] G28), (24, true, lendPg [[0, 1]] G24)]) rfl tyOK (ctx_lend (callable Try.func52 rfl rfl) P52 (ctx_cons (callable Try.func28 rfl rfl) P28 (ctx_lend (callable Try.func24 rfl rfl) P24 (ctx_nil)))) [[1], [0]] 2 Try.func30 rfl rfl (by decide) (by kernel_rfl) ?_
  rintro ds d ⟨N, a0, a1, r, rfl, hF, rfl⟩ hok
  clear hok
  refine ⟨rfl, ?_⟩
  show vc _ _ _ _ ⟨[(0, .dat (Palette.d a0)), (1, .dat (sl_iN a1))], []⟩ _
  unfold f30 at hF
  repeat' (first
    | ((with_reducible first | refine q0 _ _ ?_ | refine q1 _ _ _ _ ?_ | refine q2 _ _ _ ?_); clear Q q0 q1 q2)
    | ((with_reducible first | refine seq_op ?hx (fun Q q0 q1 q2 => ?_)); (case hx => exact rfl); conv => whnf)
    | ((with_reducible refine cond_id ?_); (first | ((refine condKT rfl ?hy ?_); (case hy => first | assumption | exact notT (by assumption) | exact rfl)) | ((refine condKF rfl ?hy ?_); (case hy => first | assumption | exact notF (by assumption) | exact rfl)) | (revert hF; (with_reducible refine condF ?hx ?_ ?_); (case hx => exact rfl); all_goals (intro hc hF))))
    | ((with_reducible refine seq_nil ?_); (first | ((with_reducible refine hR _ ?_); clear R hR) | ((with_reducible refine hL _ ?_); clear L hL)))
    | ((with_reducible first | refine int_step ?_); conv => whnf)
    | (with_reducible first | refine vc_block ?_ | refine vc_skip ?_ | refine vc_ret ?_ | refine vc_exit ?_ | refine vc_region (fun R hR => ?_) | refine k_seq_ret ?_ | refine k_seq_exit ?_ | refine k_blk ?_ | refine k_blk_ret ?_ | refine k_blk_here ?_)
    | ((with_reducible refine vc_seqN [] ?hx ?_); (case hx => exact rfl))
    | (revert hF; (with_reducible refine G24.lend ?hx ?_); (case hx => exact rfl); intro v hF; conv => whnf)
    | (revert hF; (with_reducible refine G28.step ?hx ?_); (case hx => exact rfl); intro v hF; conv => whnf)
    | (revert hF; (with_reducible refine G52.lend ?hx ?_); (case hx => exact rfl); intro v hF; conv => whnf)
    | ((with_reducible first | refine k_blk_out ?hx ?_ | refine vc_condT ?hx ?_); (case hx => exact rfl))
    | ((refine row_all ?hn ?_); (case hn => first | exact rfl | (simp; done) | (simp; omega)); conv => whnf)
    | ((with_reducible refine le_step ?hn ?_); (case hn => first | exact rfl | assumption | omega); conv => whnf)
    | ((refine ⟨?hx, ?_⟩); (case hx => exact ⟨rfl, Nat.le_of_ble_eq_true rfl, rfl⟩); conv => whnf)
    | ((with_reducible refine ex_step ?_); conv => whnf)
    | ((with_reducible refine both_T ?hx ?_); (case hx => first | exact rfl | assumption | exact notT (by assumption)); conv => whnf)
    | ((with_reducible refine both_F ?hx ?_); (case hx => first | exact rfl | assumption | exact notF (by assumption)); conv => whnf)
    | (revert hF; (with_reducible refine ite_step ?_ ?_) <;> (intro hc hF; conv => whnf))
    | ((with_reducible refine vc_condF ?hx ?_); (case hx => exact rfl))
    | (show retD _ _ _ _ _ _; conv => whnf)
    | ((refine ⟨?hx, trivial⟩); (case hx => (cases hF; exact rfl)))
    | ((refine ⟨?hx, ?_⟩); (case hx => decide); conv => whnf)
    | with_reducible refine k_seq ?_
    | (have hF : (none : Option _) = some _ := hF; cases hF))
end
end Go.Vc
namespace Go.Vc
open Go.Proofs
set_option linter.unusedVariables false
set_option linter.unnecessarySimpa false
set_option linter.unusedSimpArgs false
section
variable {c : Ctx} {p nid : Nat} {a b : Code} {st : St} {K : Ex → St → Prop}
def f12 (N : Nat) : Option (Bool) :=
 (f29 N (5 : Int) (2 : Int)).bind fun x1 =>
 bif decide (¬ x1.2 = (0 : Int)) then (some (false))
 else (bif decide (¬ (List.length x1.1 : Int) = (5 : Int)) then (some (false))
 else ((f8 N x1.1 [(1 : Int), (2 : Int)]).bind fun x2 =>
 (f30 N (Palette.mk (5 : Int) [[(1 : Int), (1 : Int), (3 : Int), (3 : Int), (4 : Int)], [(2 : Int), (3 : Int), (2 : Int), (3 : Int), (4 : Int)], [(4 : Int), (4 : Int), (4 : Int), (4 : Int), (4 : Int)]]) [(3 : Int), (4 : Int)]).bind fun x3 =>
 bif decide (x2.2 = (0 : Int)) then (bif decide (x3.2 = (0 : Int)) then (bif decide (x2.1 = (2 : Int)) then (some (decide ((List.length x3.1 : Int) = (3 : Int))))
 else (some (false)))
 else (some (false)))
 else (some (false))))
def G12 (ds : List D) (d : D) : Prop := ∃ (N : Nat) (r : Bool), ds = [] ∧ f12 N  = some r ∧ d = bN r
theorem G12.lend {N : Nat} {ρ : Type} {A : Bool → Option ρ} {q : ρ} {ds : List D} {K : D → Prop} (hd : ds = []) (h : ∀ r, A r = some q → K (bN r)) (hF : (f12 N ).bind A = some q) : ∃ d, (G12 ds d ∧ d.flatB = true) ∧ K d := by
  obtain ⟨r, hr, hA⟩ := bind_some hF
  exact ⟨_, ⟨⟨N, r, hd, hr, rfl⟩, rfl⟩, h r hA⟩
set_option maxRecDepth 20000 in
set_option maxHeartbeats 4000000 in
theorem P12 : PureOK Try.prog 12 G12 := by
  refine pure_of_vc (c := mkCtx tyTree [(30, true, purePg [[0, 1], [1]] G30), (29, true, purePg [[0], [0]] G29), (8, true, lendPg [[1], [1]] G8)]) rfl tyOK (ctx_cons (callable Try.func30 rfl rfl) P30 (ctx_cons (callable Try.func29 rfl rfl) P29 (ctx_lend (callable Try.func8 rfl rfl) P8 (ctx_nil)))) [[0]] 0 Try.func12 rfl rfl (by decide) (by kernel_rfl) ?_
  rintro ds d ⟨N, r, rfl, hF, rfl⟩ hok
  clear hok
  refine ⟨rfl, ?_⟩
  show vc _ _ _ _ ⟨[], []⟩ _
  unfold f12 at hF
  repeat' (first
    | ((with_reducible first | refine q0 _ _ ?_ | refine q1 _ _ _ _ ?_ | refine q2 _ _ _ ?_); clear Q q0 q1 q2)
    | ((with_reducible first | refine seq_op ?hx (fun Q q0 q1 q2 => ?_)); (case hx => exact rfl); conv => whnf)
    | ((with_reducible first | refine seq_off ?hx ?_ | refine seq_off0 ?hx ?_ | refine k_blk_out ?hx ?_ | refine vc_condT ?hx ?_); (case hx => exact rfl))
    | ((with_reducible refine seq_id ?_); (first | ((first | refine seq_opK rfl ?hy (fun Q q0 q1 q2 => ?_) | refine seq_opK0 rfl ?hy (fun Q q0 q1 q2 => ?_)); (case hy => first | assumption | exact notT (by assumption) | exact rfl); conv => whnf) | ((first | refine seq_offK rfl ?hy ?_ | refine seq_offK0 rfl ?hy ?_); (case hy => first | assumption | exact notF (by assumption) | exact rfl)) | (revert hF; (with_reducible first | refine seq_opF ?hx ?_ ?_ | refine seq_opF0 ?hx ?_ ?_); (case hx => exact rfl); (intro hc hF Q q0 q1 q2; conv => whnf); rotate_left; (intro hc hF); rotate_right) | (revert hF; (with_reducible first | refine seq_opN ?hx ?_ ?_ | refine seq_opN0 ?hx ?_ ?_); (case hx => exact rfl); (intro hc hF); rotate_left; (intro hc hF Q q0 q1 q2; conv => whnf); rotate_right)))
    | ((with_reducible refine cond_id ?_); (first | ((refine condKT rfl ?hy ?_); (case hy => first | assumption | exact notT (by assumption) | exact rfl)) | ((refine condKF rfl ?hy ?_); (case hy => first | assumption | exact notF (by assumption) | exact rfl)) | (revert hF; (with_reducible refine condF ?hx ?_ ?_); (case hx => exact rfl); all_goals (intro hc hF))))
    | ((with_reducible refine seq_nil ?_); (first | ((with_reducible refine hR _ ?_); clear R hR) | ((with_reducible refine hL _ ?_); clear L hL)))
    | ((with_reducible first | refine int_step ?_ | refine len_step ?_); conv => whnf)
    | (with_reducible first | refine vc_block ?_ | refine vc_skip ?_ | refine vc_ret ?_ | refine vc_exit ?_ | refine vc_region (fun R hR => ?_) | refine k_seq_ret ?_ | refine k_seq_exit ?_ | refine k_blk ?_ | refine k_blk_ret ?_ | refine k_blk_here ?_)
    | ((with_reducible refine vc_seqN [] ?hx ?_); (case hx => exact rfl))
    | (revert hF; (with_reducible refine G8.lend ?hx ?_); (case hx => exact rfl); intro v hF; conv => whnf)
    | (revert hF; (with_reducible refine G29.step ?hx ?_); (case hx => exact rfl); intro v hF; conv => whnf)
    | (revert hF; (with_reducible refine G30.step ?hx ?_); (case hx => exact rfl); intro v hF; conv => whnf)
    | ((refine row_all ?hn ?_); (case hn => first | exact rfl | (simp; done) | (simp; omega)); conv => whnf)
    | ((with_reducible refine le_step ?hn ?_); (case hn => first | exact rfl | assumption | omega); conv => whnf)
    | ((refine ⟨?hx, ?_⟩); (case hx => exact ⟨rfl, Nat.le_of_ble_eq_true rfl, rfl⟩); conv => whnf)
    | ((with_reducible refine ex_step ?_); conv => whnf)
    | ((with_reducible refine both_T ?hx ?_); (case hx => first | exact rfl | assumption | exact notT (by assumption)); conv => whnf)
    | ((with_reducible refine both_F ?hx ?_); (case hx => first | exact rfl | assumption | exact notF (by assumption)); conv => whnf)
    | (revert hF; (with_reducible refine ite_step ?_ ?_) <;> (intro hc hF; conv => whnf))
    | ((with_reducible refine vc_condF ?hx ?_); (case hx => exact rfl))
    | (show retD _ _ _ _ _ _; conv => whnf)
    | ((refine ⟨?hx, trivial⟩); (case hx => (cases hF; exact rfl)))
    | ((refine ⟨?hx, ?_⟩); (case hx => decide); conv => whnf)
    | with_reducible refine k_seq ?_
    | (have hF : (none : Option _) = some _ := hF; cases hF))
end
end Go.Vc
namespace Go.Vc
open Go.Proofs
set_option linter.unusedVariables false
set_option linter.unnecessarySimpa false
set_option linter.unusedSimpArgs false
section
variable {c : Ctx} {p nid : Nat} {a b : Code} {st : St} {K : Ex → St → Prop}
def f38 (N : Nat) (a0 : Int) (a1 : Int) (a2 : Int) : Option (Bool) :=
 bif decide (a0 ≤ a1) then (some (decide (a1 ≤ a2)))
 else (some (false))
def G38 (ds : List D) (d : D) : Prop := ∃ (N : Nat) (a0 : Int) (a1 : Int) (a2 : Int) (r : Bool), ds = [iN a0, iN a1, iN a2] ∧ f38 N a0 a1 a2 = some r ∧ d = bN r
theorem G38.lend {N : Nat} {a0 : Int} {a1 : Int} {a2 : Int} {ρ : Type} {A : Bool → Option ρ} {q : ρ} {ds : List D} {K : D → Prop} (hd : ds = [iN a0, iN a1, iN a2]) (h : ∀ r, A r = some q → K (bN r)) (hF : (f38 N a0 a1 a2).bind A = some q) : ∃ d, (G38 ds d ∧ d.flatB = true) ∧ K d := by
  obtain ⟨r, hr, hA⟩ := bind_some hF
  exact ⟨_, ⟨⟨N, a0, a1, a2, r, hd, hr, rfl⟩, rfl⟩, h r hA⟩
set_option maxRecDepth 20000 in
set_option maxHeartbeats 4000000 in
theorem P38 : PureOK Try.prog 38 G38 := by
  refine pure_of_vc (c := mkCtx tyTree []) rfl tyOK (ctx_nil) [[0]] 3 Try.func38 rfl rfl (by decide) (by kernel_rfl) ?_
  rintro ds d ⟨N, a0, a1, a2, r, rfl, hF, rfl⟩ hok
  clear hok
  refine ⟨rfl, ?_⟩
  show vc _ _ _ _ ⟨[(0, .dat (iN a0)), (1, .dat (iN a1)), (2, .dat (iN a2))], []⟩ _
  unfold f38 at hF
  repeat' (first
    | ((with_reducible first | refine q0 _ _ ?_ | refine q1 _ _ _ _ ?_ | refine q2 _ _ _ ?_); clear Q q0 q1 q2)
    | ((with_reducible first | refine seq_op ?hx (fun Q q0 q1 q2 => ?_)); (case hx => exact rfl); conv => whnf)
    | ((with_reducible first | refine seq_off ?hx ?_ | refine seq_off0 ?hx ?_); (case hx => exact rfl))
    | ((with_reducible refine seq_id ?_); (first | ((first | refine seq_opK rfl ?hy (fun Q q0 q1 q2 => ?_) | refine seq_opK0 rfl ?hy (fun Q q0 q1 q2 => ?_)); (case hy => first | assumption | exact notT (by assumption) | exact rfl); conv => whnf) | ((first | refine seq_offK rfl ?hy ?_ | refine seq_offK0 rfl ?hy ?_); (case hy => first | assumption | exact notF (by assumption) | exact rfl)) | (revert hF; (with_reducible first | refine seq_opF ?hx ?_ ?_ | refine seq_opF0 ?hx ?_ ?_); (case hx => exact rfl); (intro hc hF Q q0 q1 q2; conv => whnf); rotate_left; (intro hc hF); rotate_right) | (revert hF; (with_reducible first | refine seq_opN ?hx ?_ ?_ | refine seq_opN0 ?hx ?_ ?_); (case hx => exact rfl); (intro hc hF); rotate_left; (intro hc hF Q q0 q1 q2; conv => whnf); rotate_right)))
    | ((with_reducible refine seq_nil ?_); (first | ((with_reducible refine hR _ ?_); clear R hR) | ((with_reducible refine hL _ ?_); clear L hL)))
    | ((with_reducible first | refine int_step ?_); conv => whnf)
    | (with_reducible first | refine vc_skip ?_ | refine vc_ret ?_ | refine vc_region (fun R hR => ?_) | refine k_seq_ret ?_)
    | ((with_reducible refine vc_seqN [] ?hx ?_); (case hx => exact rfl))
    | ((refine row_all ?hn ?_); (case hn => first | exact rfl | (simp; done) | (simp; omega)); conv => whnf)
    | ((with_reducible refine le_step ?hn ?_); (case hn => first | exact rfl | assumption | omega); conv => whnf)
    | ((refine ⟨?hx, ?_⟩); (case hx => exact ⟨rfl, Nat.le_of_ble_eq_true rfl, rfl⟩); conv => whnf)
    | ((with_reducible refine ex_step ?_); conv => whnf)
    | ((with_reducible refine both_T ?hx ?_); (case hx => first | exact rfl | assumption | exact notT (by assumption)); conv => whnf)
    | ((with_reducible refine both_F ?hx ?_); (case hx => first | exact rfl | assumption | exact notF (by assumption)); conv => whnf)
    | (revert hF; (with_reducible refine ite_step ?_ ?_) <;> (intro hc hF; conv => whnf))
    | (show retD _ _ _ _ _ _; conv => whnf)
    | ((refine ⟨?hx, trivial⟩); (case hx => (cases hF; exact rfl)))
    | ((refine ⟨?hx, ?_⟩); (case hx => decide); conv => whnf)
    | with_reducible refine k_seq ?_
    | (have hF : (none : Option _) = some _ := hF; cases hF))
end
end Go.Vc
namespace Go.Vc
open Go.Proofs
set_option linter.unusedVariables false
set_option linter.unnecessarySimpa false
set_option linter.unusedSimpArgs false
section
variable {c : Ctx} {p nid : Nat} {a b : Code} {st : St} {K : Ex → St → Prop}
def f31_c12 (n6' : Int) : Option (Int × Int) :=
 some (n6', (0 : Int))
def Lf31_c12 : Lp (Int) Unit (Int × Int) := lp0 ⟨[6], [], [], []⟩ (fun n6' => [.dat (iN (n6'))]) (fun _ => []) (fun n6' => f31_c12 n6')
theorem Ef31_c12 {n6'} : (Lf31_c12).E n6' = f31_c12 n6' := rfl
def f31_9b (r9 : Int → Int → Option (Int × Int)) (a0 : Int) (a1 : Int) (k0 : Int → Option (Int × Int)) (n6' : Int) (v25 : Int) : Option (Int × Int) :=
 bif decide (v25 < (W (a0 - (1 : Int)))) then (r9 (W ((n6') * a1)) (W (v25 + (1 : Int))))
 else (k0 (n6'))
def f31_9 (a0 : Int) (a1 : Int) (k0 : Int → Option (Int × Int)) : Nat → Int → Int → Option (Int × Int)
  | 0, _, _ => none
  | n + 1, n6', v25 => f31_9b (f31_9 a0 a1 k0 n) a0 a1 k0 n6' v25
def Lf31_9 (a0 : Int) (a1 : Int) (k0 : Int → Option (Int × Int)) : Lp (Nat × Int × Int) Unit (Int × Int) := lp0 ⟨[1, 6, 24, 25], [], [], []⟩ (fun (_, n6', v25) => [.dat (iN a1), .dat (iN (n6')), .dat (iN (W (a0 - (1 : Int)))), .dat (iN v25)]) (fun (_, _, _) => []) (fun (n, n6', v25) => f31_9 a0 a1 k0 n n6' v25)
theorem Ef31_9 {a0 a1 k0 n n6' v25} : (Lf31_9 a0 a1 k0).E (n, n6', v25) = f31_9 a0 a1 k0 n n6' v25 := rfl
def f31_c8 (a0 : Int) (a1 : Int) (N : Nat) (n6 : Int) : Option (Int × Int) :=
 joinK f31_c12 fun k0 =>
 f31_9 a0 a1 k0 N n6 (0 : Int)
def Lf31_c8 (a0 : Int) (a1 : Int) (N : Nat) : Lp (Int) Unit (Int × Int) := lp0 ⟨[0, 1, 6], [], [], []⟩ (fun n6 => [.dat (iN a0), .dat (iN a1), .dat (iN n6)]) (fun _ => []) (fun n6 => f31_c8 a0 a1 N n6)
theorem Ef31_c8 {a0 a1 N n6} : (Lf31_c8 a0 a1 N).E n6 = f31_c8 a0 a1 N n6 := rfl
def f31_5b (r5 : Int → Int → Option (Int × Int)) (a0 : Int) (a1 : Int) (k1 : Int → Option (Int × Int)) (n6 : Int) (v17 : Int) : Option (Int × Int) :=
 bif decide (v17 < (W (a1 - (1 : Int)))) then (r5 (W (n6 * a0)) (W (v17 + (1 : Int))))
 else (k1 n6)
def f31_5 (a0 : Int) (a1 : Int) (k1 : Int → Option (Int × Int)) : Nat → Int → Int → Option (Int × Int)
  | 0, _, _ => none
  | n + 1, n6, v17 => f31_5b (f31_5 a0 a1 k1 n) a0 a1 k1 n6 v17
def Lf31_5 (a0 : Int) (a1 : Int) (k1 : Int → Option (Int × Int)) : Lp (Nat × Int × Int) Unit (Int × Int) := lp0 ⟨[0, 1, 6, 16, 17], [], [], []⟩ (fun (_, n6, v17) => [.dat (iN a0), .dat (iN a1), .dat (iN n6), .dat (iN (W (a1 - (1 : Int)))), .dat (iN v17)]) (fun (_, _, _) => []) (fun (n, n6, v17) => f31_5 a0 a1 k1 n n6 v17)
theorem Ef31_5 {a0 a1 k1 n n6 v17} : (Lf31_5 a0 a1 k1).E (n, n6, v17) = f31_5 a0 a1 k1 n n6 v17 := rfl
def f31 (N : Nat) (a0 : Int) (a1 : Int) : Option (Int × Int) :=
 (f38 N (1 : Int) a0 (6 : Int)).bind fun x1 =>
 bif !x1 then (some ((0 : Int), (4 : Int)))
 else ((f38 N (1 : Int) a1 (6 : Int)).bind fun x2 =>
 bif !x2 then (some ((0 : Int), (4 : Int)))
 else (joinK (f31_c8 a0 a1 N) fun k1 =>
 f31_5 a0 a1 k1 N (1 : Int) (0 : Int)))
def G31 (ds : List D) (d : D) : Prop := ∃ (N : Nat) (a0 : Int) (a1 : Int) (r : Int × Int), ds = [iN a0, iN a1] ∧ f31 N a0 a1 = some r ∧ d = .tup [iN r.1, iN r.2]
theorem G31.lend {N : Nat} {a0 : Int} {a1 : Int} {ρ : Type} {A : (Int × Int) → Option ρ} {q : ρ} {ds : List D} {K : D → Prop} (hd : ds = [iN a0, iN a1]) (h : ∀ r, A r = some q → K (.tup [iN r.1, iN r.2])) (hF : (f31 N a0 a1).bind A = some q) : ∃ d, (G31 ds d ∧ d.flatB = true) ∧ K d := by
  obtain ⟨r, hr, hA⟩ := bind_some hF
  exact ⟨_, ⟨⟨N, a0, a1, r, hd, hr, rfl⟩, rfl⟩, h r hA⟩
set_option maxRecDepth 20000 in
set_option maxHeartbeats 4000000 in
theorem P31 : PureOK Try.prog 31 G31 := by
  refine pure_of_vc (c := mkCtx tyTree [(38, true, lendPg [[0], [0], [0]] G38)]) rfl tyOK (ctx_lend (callable Try.func38 rfl rfl) P38 (ctx_nil)) [[0], [0]] 2 Try.func31 rfl rfl (by decide) (by kernel_rfl) ?_
  rintro ds d ⟨N, a0, a1, r, rfl, hF, rfl⟩ hok
  clear hok
  refine ⟨rfl, ?_⟩
  show vc _ _ _ _ ⟨[(0, .dat (iN a0)), (1, .dat (iN a1))], []⟩ _
  unfold f31 at hF
  repeat' (first
    | ((with_reducible first | refine q0 _ _ ?_ | refine q1 _ _ _ _ ?_ | refine q2 _ _ _ ?_); clear Q q0 q1 q2)
    | ((with_reducible first | refine seq_op ?hx (fun Q q0 q1 q2 => ?_)); (case hx => exact rfl); conv => whnf)
    | ((with_reducible first | refine seq_off ?hx ?_ | refine seq_off0 ?hx ?_ | refine k_blk_out ?hx ?_ | refine vc_condT ?hx ?_); (case hx => exact rfl))
    | ((with_reducible refine seq_id ?_); (first | ((first | refine seq_opK rfl ?hy (fun Q q0 q1 q2 => ?_) | refine seq_opK0 rfl ?hy (fun Q q0 q1 q2 => ?_)); (case hy => first | assumption | exact notT (by assumption) | exact rfl); conv => whnf) | ((first | refine seq_offK rfl ?hy ?_ | refine seq_offK0 rfl ?hy ?_); (case hy => first | assumption | exact notF (by assumption) | exact rfl)) | (revert hF; (with_reducible first | refine seq_opF ?hx ?_ ?_ | refine seq_opF0 ?hx ?_ ?_); (case hx => exact rfl); (intro hc hF Q q0 q1 q2; conv => whnf); rotate_left; (intro hc hF); rotate_right) | (revert hF; (with_reducible first | refine seq_opN ?hx ?_ ?_ | refine seq_opN0 ?hx ?_ ?_); (case hx => exact rfl); (intro hc hF); rotate_left; (intro hc hF Q q0 q1 q2; conv => whnf); rotate_right)))
    | ((with_reducible refine cond_id ?_); (first | ((refine condKT rfl ?hy ?_); (case hy => first | assumption | exact notT (by assumption) | exact rfl)) | ((refine condKF rfl ?hy ?_); (case hy => first | assumption | exact notF (by assumption) | exact rfl)) | (revert hF; (with_reducible refine condF ?hx ?_ ?_); (case hx => exact rfl); all_goals (intro hc hF))))
    | ((with_reducible refine seq_nil ?_); (first | ((with_reducible refine hR _ ?_); clear R hR) | ((with_reducible refine hL _ ?_); clear L hL)))
    | ((with_reducible first | refine int_step ?_); conv => whnf)
    | (with_reducible first | refine vc_block ?_ | refine vc_skip ?_ | refine vc_ret ?_ | refine vc_exit ?_ | refine vc_region (fun R hR => ?_) | refine k_seq_ret ?_ | refine k_seq_exit ?_ | refine k_blk ?_ | refine k_blk_ret ?_ | refine k_blk_here ?_ | refine k_loop_ret ?_ | refine k_loop_exit ?_)
    | ((with_reducible refine vc_seqN [12, 8] ?hx ?_); (case hx => exact rfl))
    | ((with_reducible refine seq_id' ?_); (with_reducible replace hF := chkJ (f := f31_c12) hF); revert hF; (refine Lp.cut0 Lf31_c12 f31_c12 12 rfl rfl ?_ ?_); (intro hF); rotate_left; (rintro n6' hF; dsimp only [Lf31_c12] at hF; unfold f31_c12 at hF); rotate_right)
    | ((with_reducible refine head_id ?_); (with_reducible replace hF := chkE (e := f31_c12 ..) hF); exact Lp.head Ef31_c12 hF () ⟨_, rfl, rfl, rfl, rfl⟩ rfl)
    | ((with_reducible refine loop_id ?_); (with_reducible replace hF := chkE (e := f31_9 ..) hF); revert hF; (refine Lp.loop Ef31_9 () rfl ⟨_, rfl, rfl, rfl, rfl⟩ rfl (fun _ => rfl) ?_); rintro n ⟨n6', v25⟩ hF; dsimp only [Lf31_9, f31_9] at hF; unfold f31_9b at hF)
    | ((with_reducible refine back_id ?_); (with_reducible replace hF := chkE (e := f31_9 ..) hF); exact Lp.back Ef31_9 hF () ⟨_, rfl, rfl, rfl, rfl⟩ rfl)
    | ((with_reducible refine seq_id' ?_); (with_reducible replace hF := chkJ (f := f31_c8 _ _ _) hF); revert hF; (refine Lp.cut3 Lf31_c8 f31_c8 8 rfl rfl ?_ ?_); (intro hF); rotate_left; (rintro n6 hF; dsimp only [Lf31_c8] at hF; unfold f31_c8 at hF); rotate_right)
    | ((with_reducible refine head_id ?_); (with_reducible replace hF := chkE (e := f31_c8 ..) hF); exact Lp.head Ef31_c8 hF () ⟨_, rfl, rfl, rfl, rfl⟩ rfl)
    | ((with_reducible refine loop_id ?_); (with_reducible replace hF := chkE (e := f31_5 ..) hF); revert hF; (refine Lp.loop Ef31_5 () rfl ⟨_, rfl, rfl, rfl, rfl⟩ rfl (fun _ => rfl) ?_); rintro n ⟨n6, v17⟩ hF; dsimp only [Lf31_5, f31_5] at hF; unfold f31_5b at hF)
    | ((with_reducible refine back_id ?_); (with_reducible replace hF := chkE (e := f31_5 ..) hF); exact Lp.back Ef31_5 hF () ⟨_, rfl, rfl, rfl, rfl⟩ rfl)
    | (revert hF; (with_reducible refine G38.lend ?hx ?_); (case hx => exact rfl); intro v hF; conv => whnf)
    | ((refine row_all ?hn ?_); (case hn => first | exact rfl | (simp; done) | (simp; omega)); conv => whnf)
    | ((with_reducible refine le_step ?hn ?_); (case hn => first | exact rfl | assumption | omega); conv => whnf)
    | ((refine ⟨?hx, ?_⟩); (case hx => exact ⟨rfl, Nat.le_of_ble_eq_true rfl, rfl⟩); conv => whnf)
    | ((with_reducible refine ex_step ?_); conv => whnf)
    | ((with_reducible refine both_T ?hx ?_); (case hx => first | exact rfl | assumption | exact notT (by assumption)); conv => whnf)
    | ((with_reducible refine both_F ?hx ?_); (case hx => first | exact rfl | assumption | exact notF (by assumption)); conv => whnf)
    | (revert hF; (with_reducible refine ite_step ?_ ?_) <;> (intro hc hF; conv => whnf))
    | ((with_reducible refine vc_condF ?hx ?_); (case hx => exact rfl))
    | (show retD _ _ _ _ _ _; conv => whnf)
    | ((refine ⟨?hx, trivial⟩); (case hx => (cases hF; exact rfl)))
    | ((refine ⟨?hx, ?_⟩); (case hx => decide); conv => whnf)
    | with_reducible refine k_seq ?_
    | (have hF : (none : Option _) = some _ := hF; cases hF))
end
end Go.Vc
namespace Go.Vc
open Go.Proofs
set_option linter.unusedVariables false
set_option linter.unnecessarySimpa false
set_option linter.unusedSimpArgs false
section
variable {c : Ctx} {p nid : Nat} {a b : Code} {st : St} {K : Ex → St → Prop}
def f13 (N : Nat) : Option (Bool) :=
 (f31 N (2 : Int) (3 : Int)).bind fun x1 =>
 bif decide (x1.2 = (0 : Int)) then (bif decide (x1.1 = (12 : Int)) then ((f12 N ).bind fun x2 =>
 some (x2))
 else (some (false)))
 else (some (false))
def G13 (ds : List D) (d : D) : Prop := ∃ (N : Nat) (r : Bool), ds = [] ∧ f13 N  = some r ∧ d = bN r
theorem G13.lend {N : Nat} {ρ : Type} {A : Bool → Option ρ} {q : ρ} {ds : List D} {K : D → Prop} (hd : ds = []) (h : ∀ r, A r = some q → K (bN r)) (hF : (f13 N ).bind A = some q) : ∃ d, (G13 ds d ∧ d.flatB = true) ∧ K d := by
  obtain ⟨r, hr, hA⟩ := bind_some hF
  exact ⟨_, ⟨⟨N, r, hd, hr, rfl⟩, rfl⟩, h r hA⟩
set_option maxRecDepth 20000 in
set_option maxHeartbeats 4000000 in
theorem P13 : PureOK Try.prog 13 G13 := by
  refine pure_of_vc (c := mkCtx tyTree [(31, true, lendPg [[0], [0]] G31), (12, true, lendPg [] G12)]) rfl tyOK (ctx_lend (callable Try.func31 rfl rfl) P31 (ctx_lend (callable Try.func12 rfl rfl) P12 (ctx_nil))) [[0]] 0 Try.func13 rfl rfl (by decide) (by kernel_rfl) ?_
  rintro ds d ⟨N, r, rfl, hF, rfl⟩ hok
  clear hok
  refine ⟨rfl, ?_⟩
  show vc _ _ _ _ ⟨[], []⟩ _
  unfold f13 at hF
  repeat' (first
    | ((with_reducible first | refine q0 _ _ ?_ | refine q1 _ _ _ _ ?_ | refine q2 _ _ _ ?_); clear Q q0 q1 q2)
    | ((with_reducible first | refine seq_op ?hx (fun Q q0 q1 q2 => ?_)); (case hx => exact rfl); conv => whnf)
    | ((with_reducible first | refine seq_off ?hx ?_ | refine seq_off0 ?hx ?_); (case hx => exact rfl))
    | ((with_reducible refine seq_id ?_); (first | ((first | refine seq_opK rfl ?hy (fun Q q0 q1 q2 => ?_) | refine seq_opK0 rfl ?hy (fun Q q0 q1 q2 => ?_)); (case hy => first | assumption | exact notT (by assumption) | exact rfl); conv => whnf) | ((first | refine seq_offK rfl ?hy ?_ | refine seq_offK0 rfl ?hy ?_); (case hy => first | assumption | exact notF (by assumption) | exact rfl)) | (revert hF; (with_reducible first | refine seq_opF ?hx ?_ ?_ | refine seq_opF0 ?hx ?_ ?_); (case hx => exact rfl); (intro hc hF Q q0 q1 q2; conv => whnf); rotate_left; (intro hc hF); rotate_right) | (revert hF; (with_reducible first | refine seq_opN ?hx ?_ ?_ | refine seq_opN0 ?hx ?_ ?_); (case hx => exact rfl); (intro hc hF); rotate_left; (intro hc hF Q q0 q1 q2; conv => whnf); rotate_right)))
    | ((with_reducible refine seq_nil ?_); (first | ((with_reducible refine hR _ ?_); clear R hR) | ((with_reducible refine hL _ ?_); clear L hL)))
    | ((with_reducible first | refine int_step ?_); conv => whnf)
    | (with_reducible first | refine vc_skip ?_ | refine vc_ret ?_ | refine vc_region (fun R hR => ?_) | refine k_seq_ret ?_)
    | ((with_reducible refine vc_seqN [] ?hx ?_); (case hx => exact rfl))
    | (revert hF; (with_reducible refine G12.lend ?hx ?_); (case hx => exact rfl); intro v hF; conv => whnf)
    | (revert hF; (with_reducible refine G31.lend ?hx ?_); (case hx => exact rfl); intro v hF; conv => whnf)
    | ((refine row_all ?hn ?_); (case hn => first | exact rfl | (simp; done) | (simp; omega)); conv => whnf)
    | ((with_reducible refine le_step ?hn ?_); (case hn => first | exact rfl | assumption | omega); conv => whnf)
    | ((refine ⟨?hx, ?_⟩); (case hx => exact ⟨rfl, Nat.le_of_ble_eq_true rfl, rfl⟩); conv => whnf)
    | ((with_reducible refine ex_step ?_); conv => whnf)
    | ((with_reducible refine both_T ?hx ?_); (case hx => first | exact rfl | assumption | exact notT (by assumption)); conv => whnf)
    | ((with_reducible refine both_F ?hx ?_); (case hx => first | exact rfl | assumption | exact notF (by assumption)); conv => whnf)
    | (revert hF; (with_reducible refine ite_step ?_ ?_) <;> (intro hc hF; conv => whnf))
    | (show retD _ _ _ _ _ _; conv => whnf)
    | ((refine ⟨?hx, trivial⟩); (case hx => (cases hF; exact rfl)))
    | ((refine ⟨?hx, ?_⟩); (case hx => decide); conv => whnf)
    | with_reducible refine k_seq ?_
    | (have hF : (none : Option _) = some _ := hF; cases hF))
end
end Go.Vc
namespace Go.Vc
open Go.Proofs
set_option linter.unusedVariables false
set_option linter.unnecessarySimpa false
set_option linter.unusedSimpArgs false
section
variable {c : Ctx} {p nid : Nat} {a b : Code} {st : St} {K : Ex → St → Prop}
def f32_c13 : Option (Int) :=
 some ((0 : Int))
def Lf32_c13 : Lp (Unit) Unit (Int) := lp0 ⟨[], [], [], []⟩ (fun _ => []) (fun _ => []) (fun _ => f32_c13)
theorem Ef32_c13 : (Lf32_c13).E () = f32_c13 := rfl
def f32_6b (r6 : Int → Option (Int)) (a0 : Rack) (N : Nat) (k0 : Option (Int)) (v24 : Int) : Option (Int) :=
 bif decide (v24 < (List.length a0.Braces : Int)) then ((ix a0.Braces v24).bind fun x3 =>
 (f38 N (0 : Int) x3.Row (W (a0.Rows - (1 : Int)))).bind fun x4 =>
 bif !x4 then (some ((5 : Int)))
 else ((f38 N (0 : Int) x3.Column (W (a0.Columns - (1 : Int)))).bind fun x5 =>
 bif !x5 then (some ((5 : Int)))
 else ((f38 N (0 : Int) x3.Kind (2 : Int)).bind fun x6 =>
 bif !x6 then (some ((10 : Int)))
 else (r6 (W (v24 + (1 : Int)))))))
 else k0
def f32_6 (a0 : Rack) (N : Nat) (k0 : Option (Int)) : Nat → Int → Option (Int)
  | 0, _ => none
  | n + 1, v24 => f32_6b (f32_6 a0 N k0 n) a0 N k0 v24
def Lf32_6 (a0 : Rack) (N : Nat) (k0 : Option (Int)) : Lp (Nat × Int) Unit (Int) := lp0 ⟨[1, 22, 23, 24], [0], [], []⟩ (fun (_, v24) => [.ptr 0 0, .dat (sl_Brace a0.Braces), .dat (iN (List.length a0.Braces : Int)), .dat (iN v24)]) (fun (_, _) => [.box [.dat (iN a0.Rows), .dat (iN a0.Columns), .dat (sl_Brace a0.Braces)]]) (fun (n, v24) => f32_6 a0 N k0 n v24)
theorem Ef32_6 {a0 N k0 n v24} : (Lf32_6 a0 N k0).E (n, v24) = f32_6 a0 N k0 n v24 := rfl
def f32 (N : Nat) (a0 : Rack) : Option (Int) :=
 (f38 N (1 : Int) a0.Rows (6 : Int)).bind fun x1 =>
 bif !x1 then (some ((4 : Int)))
 else ((f38 N (1 : Int) a0.Columns (6 : Int)).bind fun x2 =>
 bif !x2 then (some ((4 : Int)))
 else (bif decide ((24 : Int) < (List.length a0.Braces : Int)) then (some ((2 : Int)))
 else (joinK f32_c13 fun k0 =>
 f32_6 a0 N k0 N (0 : Int))))
def G32 (ds : List D) (d : D) : Prop := ∃ (N : Nat) (a0 : Rack) (r : Int), ds = [Rack.d a0] ∧ f32 N a0 = some r ∧ d = iN r
theorem G32.lend {N : Nat} {a0 : Rack} {ρ : Type} {A : Int → Option ρ} {q : ρ} {ds : List D} {K : D → Prop} (hd : ds = [Rack.d a0]) (h : ∀ r, A r = some q → K (iN r)) (hF : (f32 N a0).bind A = some q) : ∃ d, (G32 ds d ∧ d.flatB = true) ∧ K d := by
  obtain ⟨r, hr, hA⟩ := bind_some hF
  exact ⟨_, ⟨⟨N, a0, r, hd, hr, rfl⟩, rfl⟩, h r hA⟩
set_option maxRecDepth 20000 in
set_option maxHeartbeats 4000000 in
theorem P32 : PureOK Try.prog 32 G32 := by
  refine pure_of_vc (c := mkCtx tyTree [(38, true, lendPg [[0], [0], [0]] G38)]) rfl tyOK (ctx_lend (callable Try.func38 rfl rfl) P38 (ctx_nil)) [[0]] 1 Try.func32 rfl rfl (by decide) (by kernel_rfl) ?_
  rintro ds d ⟨N, a0, r, rfl, hF, rfl⟩ hok
  clear hok
  refine ⟨rfl, ?_⟩
  show vc _ _ _ _ ⟨[(0, .dat (Rack.d a0))], []⟩ _
  unfold f32 at hF
  repeat' (first
    | ((with_reducible first | refine q0 _ _ ?_ | refine q1 _ _ _ _ ?_ | refine q2 _ _ _ ?_); clear Q q0 q1 q2)
    | ((with_reducible first | refine seq_op ?hx (fun Q q0 q1 q2 => ?_) | refine seq_op0 ?hx (fun Q q0 q1 q2 => ?_)); (case hx => exact rfl); conv => whnf)
    | ((with_reducible first | refine seq_off ?hx ?_ | refine seq_off0 ?hx ?_ | refine k_blk_out ?hx ?_ | refine vc_condT ?hx ?_); (case hx => exact rfl))
    | ((with_reducible refine seq_id ?_); (first | ((first | refine seq_opK rfl ?hy (fun Q q0 q1 q2 => ?_) | refine seq_opK0 rfl ?hy (fun Q q0 q1 q2 => ?_)); (case hy => first | assumption | exact notT (by assumption) | exact rfl); conv => whnf) | ((first | refine seq_offK rfl ?hy ?_ | refine seq_offK0 rfl ?hy ?_); (case hy => first | assumption | exact notF (by assumption) | exact rfl)) | (revert hF; (with_reducible first | refine seq_opF ?hx ?_ ?_ | refine seq_opF0 ?hx ?_ ?_); (case hx => exact rfl); (intro hc hF Q q0 q1 q2; conv => whnf); rotate_left; (intro hc hF); rotate_right) | (revert hF; (with_reducible first | refine seq_opN ?hx ?_ ?_ | refine seq_opN0 ?hx ?_ ?_); (case hx => exact rfl); (intro hc hF); rotate_left; (intro hc hF Q q0 q1 q2; conv => whnf); rotate_right)))
    | ((with_reducible refine cond_id ?_); (first | ((refine condKT rfl ?hy ?_); (case hy => first | assumption | exact notT (by assumption) | exact rfl)) | ((refine condKF rfl ?hy ?_); (case hy => first | assumption | exact notF (by assumption) | exact rfl)) | (revert hF; (with_reducible refine condF ?hx ?_ ?_); (case hx => exact rfl); all_goals (intro hc hF))))
    | ((with_reducible refine seq_nil ?_); (first | ((with_reducible refine hR _ ?_); clear R hR) | ((with_reducible refine hL _ ?_); clear L hL)))
    | ((with_reducible first | refine int_step ?_ | refine len_step ?_ | refine idx2 (by assumption) ?_ | refine idx3 (by assumption) ?_); conv => whnf)
    | (with_reducible first | refine vc_block ?_ | refine vc_skip ?_ | refine vc_ret ?_ | refine vc_exit ?_ | refine vc_region (fun R hR => ?_) | refine k_seq_ret ?_ | refine k_seq_exit ?_ | refine k_blk ?_ | refine k_blk_ret ?_ | refine k_blk_here ?_ | refine k_loop_ret ?_ | refine k_loop_exit ?_)
    | ((with_reducible refine vc_seqN [13] ?hx ?_); (case hx => exact rfl))
    | ((with_reducible refine seq_id' ?_); (with_reducible replace hF := chkJ (f := f32_c13) hF); revert hF; (refine Lp.cut0 Lf32_c13 f32_c13 13 rfl rfl ?_ ?_); (intro hF); rotate_left; (rintro _ hF; dsimp only [Lf32_c13] at hF; unfold f32_c13 at hF); rotate_right)
    | ((with_reducible refine head_id ?_); (with_reducible replace hF := chkE (e := f32_c13) hF); exact Lp.head Ef32_c13 hF () ⟨_, rfl, rfl, rfl, rfl⟩ rfl)
    | ((with_reducible refine loop_id ?_); (with_reducible replace hF := chkE (e := f32_6 ..) hF); revert hF; (refine Lp.loop Ef32_6 () rfl ⟨_, rfl, rfl, rfl, rfl⟩ rfl (fun _ => rfl) ?_); rintro n v24 hF; dsimp only [Lf32_6, f32_6] at hF; unfold f32_6b at hF)
    | ((with_reducible refine back_id ?_); (with_reducible replace hF := chkE (e := f32_6 ..) hF); exact Lp.back Ef32_6 hF () ⟨_, rfl, rfl, rfl, rfl⟩ rfl)
    | (revert hF; (with_reducible refine G38.lend ?hx ?_); (case hx => exact rfl); intro v hF; conv => whnf)
    | (revert hF; (with_reducible refine idx1 ?hn ?_); (case hn => first | exact rfl | exact (List.length_map _) | assumption | omega | simp); intro x hx hF; conv => whnf)
    | ((refine row_all ?hn ?_); (case hn => first | exact rfl | (simp; done) | (simp; omega)); conv => whnf)
    | ((with_reducible refine le_step ?hn ?_); (case hn => first | exact rfl | assumption | omega); conv => whnf)
    | ((refine ⟨?hx, ?_⟩); (case hx => exact ⟨rfl, Nat.le_of_ble_eq_true rfl, rfl⟩); conv => whnf)
    | ((with_reducible refine ex_step ?_); conv => whnf)
    | ((with_reducible refine both_T ?hx ?_); (case hx => first | exact rfl | assumption | exact notT (by assumption)); conv => whnf)
    | ((with_reducible refine both_F ?hx ?_); (case hx => first | exact rfl | assumption | exact notF (by assumption)); conv => whnf)
    | (revert hF; (with_reducible refine ite_step ?_ ?_) <;> (intro hc hF; conv => whnf))
    | ((with_reducible refine vc_condF ?hx ?_); (case hx => exact rfl))
    | (show retD _ _ _ _ _ _; conv => whnf)
    | ((refine ⟨?hx, trivial⟩); (case hx => (cases hF; exact rfl)))
    | ((refine ⟨?hx, ?_⟩); (case hx => decide); conv => whnf)
    | with_reducible refine k_seq ?_
    | (have hF : (none : Option _) = some _ := hF; cases hF))
end
end Go.Vc
namespace Go.Vc
open Go.Proofs
set_option linter.unusedVariables false
set_option linter.unnecessarySimpa false
set_option linter.unusedSimpArgs false
section
variable {c : Ctx} {p nid : Nat} {a b : Code} {st : St} {K : Ex → St → Prop}
def f33_c11 (a0 : Rack) (b108_3 : List Int) : Option (Frame) :=
 some ((Frame.mk a0 b108_3))
def Lf33_c11 (a0 : Rack) : Lp ((List Int)) (Nat) (Frame) := ⟨⟨[4, 5], [1, 108, 90500], [(.cell 108 3, 90500, 91, 1)], []⟩, fun _ => [.ptr 1 0, .ptr 108 0], fun b108_3 => [.box [.dat (iN (0 : Int)), .dat (iN (0 : Int)), .nil, .nil], .box [.dat (iN a0.Rows), .dat (iN a0.Columns), .dat (sl_Brace a0.Braces), .rs 90500 (List.length b108_3)], .row 91 1 (List.map u16N b108_3)], fun b108_3 => f33_c11 a0 b108_3, fun _ _ => [.ptr 1 0, .ptr 108 0], fun b108_3 m0 => [.box [.dat (iN (0 : Int)), .dat (iN (0 : Int)), .nil, .nil], .box [.dat (iN a0.Rows), .dat (iN a0.Columns), .dat (sl_Brace a0.Braces), .rs 90500 m0], .row 91 1 (List.map u16N b108_3)], fun b108_3 => List.length b108_3, fun _ => rfl, fun _ => rfl⟩
theorem Ef33_c11 {a0 b108_3} : (Lf33_c11 a0).E b108_3 = f33_c11 a0 b108_3 := rfl
def f33_c8 (a0 : Rack) (a1 : Int) (v21 : Int) (r3 : Int → (List Int) → Option (Frame)) (x2 : Brace) (b108_3' : List Int) : Option (Frame) :=
 bif decide (¬ v21 = a1) then (bif decide (¬ x2.Kind = (1 : Int)) then ((ix (b108_3') (W (a0.Rows + x2.Column))).bind fun x3 =>
 (chk (decide (0 ≤ x2.Row))).bind fun _ =>
 (ix (b108_3') (W (a0.Rows + x2.Column))).bind fun x4 =>
 (setx (b108_3') (W (a0.Rows + x2.Column)) (bitsI .or .u16 x3 (Wk .u16 ((1 : Int) * 2 ^ (min (Int.toNat x2.Row) 16))))).bind fun x5 =>
 r3 (W (v21 + (1 : Int))) x5)
 else (r3 (W (v21 + (1 : Int))) (b108_3')))
 else (r3 (W (v21 + (1 : Int))) (b108_3'))
def Lf33_c8 (a0 : Rack) (a1 : Int) (v21 : Int) (r3 : Int → (List Int) → Option (Frame)) (x2 : Brace) : Lp ((List Int)) (Nat) (Frame) := ⟨⟨[1, 2, 4, 5, 6, 7, 8, 9, 19, 20, 21], [0, 1, 108, 403, 90500], [(.cell 108 3, 90500, 91, 1)], []⟩, fun _ => [.dat (iN a1), .ptr 0 0, .ptr 1 0, .ptr 108 0, .dat (iN v21), .ptr 403 0, .dat (iN x2.Row), .dat (iN (W (a0.Rows + x2.Column))), .dat (sl_Brace a0.Braces), .dat (iN (List.length a0.Braces : Int)), .dat (iN v21)], fun b108_3' => [.box [.dat (iN a0.Rows), .dat (iN a0.Columns), .dat (sl_Brace a0.Braces)], .box [.dat (iN (0 : Int)), .dat (iN (0 : Int)), .nil, .nil], .box [.dat (iN a0.Rows), .dat (iN a0.Columns), .dat (sl_Brace a0.Braces), .rs 90500 (List.length (b108_3'))], .box [.dat (iN x2.Row), .dat (iN x2.Column), .dat (iN x2.Kind)], .row 91 1 (List.map u16N (b108_3'))], fun b108_3' => f33_c8 a0 a1 v21 r3 x2 b108_3', fun _ _ => [.dat (iN a1), .ptr 0 0, .ptr 1 0, .ptr 108 0, .dat (iN v21), .ptr 403 0, .dat (iN x2.Row), .dat (iN (W (a0.Rows + x2.Column))), .dat (sl_Brace a0.Braces), .dat (iN (List.length a0.Braces : Int)), .dat (iN v21)], fun b108_3' m0 => [.box [.dat (iN a0.Rows), .dat (iN a0.Columns), .dat (sl_Brace a0.Braces)], .box [.dat (iN (0 : Int)), .dat (iN (0 : Int)), .nil, .nil], .box [.dat (iN a0.Rows), .dat (iN a0.Columns), .dat (sl_Brace a0.Braces), .rs 90500 m0], .box [.dat (iN x2.Row), .dat (iN x2.Column), .dat (iN x2.Kind)], .row 91 1 (List.map u16N (b108_3'))], fun b108_3' => List.length (b108_3'), fun _ => rfl, fun _ => rfl⟩
theorem Ef33_c8 {a0 a1 v21 r3 x2 b108_3'} : (Lf33_c8 a0 a1 v21 r3 x2).E b108_3' = f33_c8 a0 a1 v21 r3 x2 b108_3' := rfl
def f33_3b (r3 : Int → (List Int) → Option (Frame)) (a0 : Rack) (a1 : Int) (k0 : (List Int) → Option (Frame)) (v21 : Int) (b108_3 : List Int) : Option (Frame) :=
 bif decide (v21 < (List.length a0.Braces : Int)) then ((ix a0.Braces v21).bind fun x2 =>
 joinK (f33_c8 a0 a1 v21 r3 x2) fun k1 =>
 bif decide (¬ v21 = a1) then (bif decide (¬ x2.Kind = (2 : Int)) then ((ix b108_3 x2.Row).bind fun x6 =>
 (chk (decide (0 ≤ (W (a0.Rows + x2.Column))))).bind fun _ =>
 (ix b108_3 x2.Row).bind fun x7 =>
 (setx b108_3 x2.Row (bitsI .or .u16 x6 (Wk .u16 ((1 : Int) * 2 ^ (min (Int.toNat (W (a0.Rows + x2.Column))) 16))))).bind fun x8 =>
 k1 x8)
 else (k1 b108_3))
 else (k1 b108_3))
 else (k0 b108_3)
def f33_3 (a0 : Rack) (a1 : Int) (k0 : (List Int) → Option (Frame)) : Nat → Int → (List Int) → Option (Frame)
  | 0, _, _ => none
  | n + 1, v21, b108_3 => f33_3b (f33_3 a0 a1 k0 n) a0 a1 k0 v21 b108_3
def Lf33_3 (a0 : Rack) (a1 : Int) (k0 : (List Int) → Option (Frame)) : Lp (Nat × Int × (List Int)) (Nat) (Frame) := ⟨⟨[1, 2, 4, 5, 19, 20, 21], [0, 1, 108, 90500], [(.cell 108 3, 90500, 91, 1)], []⟩, fun (_, v21, _) => [.dat (iN a1), .ptr 0 0, .ptr 1 0, .ptr 108 0, .dat (sl_Brace a0.Braces), .dat (iN (List.length a0.Braces : Int)), .dat (iN v21)], fun (_, _, b108_3) => [.box [.dat (iN a0.Rows), .dat (iN a0.Columns), .dat (sl_Brace a0.Braces)], .box [.dat (iN (0 : Int)), .dat (iN (0 : Int)), .nil, .nil], .box [.dat (iN a0.Rows), .dat (iN a0.Columns), .dat (sl_Brace a0.Braces), .rs 90500 (List.length b108_3)], .row 91 1 (List.map u16N b108_3)], fun (n, v21, b108_3) => f33_3 a0 a1 k0 n v21 b108_3, fun (_, v21, _) _ => [.dat (iN a1), .ptr 0 0, .ptr 1 0, .ptr 108 0, .dat (sl_Brace a0.Braces), .dat (iN (List.length a0.Braces : Int)), .dat (iN v21)], fun (_, _, b108_3) m0 => [.box [.dat (iN a0.Rows), .dat (iN a0.Columns), .dat (sl_Brace a0.Braces)], .box [.dat (iN (0 : Int)), .dat (iN (0 : Int)), .nil, .nil], .box [.dat (iN a0.Rows), .dat (iN a0.Columns), .dat (sl_Brace a0.Braces), .rs 90500 m0], .row 91 1 (List.map u16N b108_3)], fun (_, _, b108_3) => List.length b108_3, fun _ => rfl, fun _ => rfl⟩
theorem Ef33_3 {a0 a1 k0 n v21 b108_3} : (Lf33_3 a0 a1 k0).E (n, v21, b108_3) = f33_3 a0 a1 k0 n v21 b108_3 := rfl
def f33 (N : Nat) (a0 : Rack) (a1 : Int) : Option (Frame) :=
 (mkS 2 (0 : Int) (W (a0.Rows + a0.Columns)) (W (a0.Rows + a0.Columns))).bind fun x1 =>
 joinK (f33_c11 a0) fun k0 =>
 f33_3 a0 a1 k0 N (0 : Int) x1
def G33 (ds : List D) (d : D) : Prop := ∃ (N : Nat) (a0 : Rack) (a1 : Int) (r : Frame), ds = [Rack.d a0, iN a1] ∧ f33 N a0 a1 = some r ∧ d = Frame.d r
theorem G33.step {N : Nat} {a0 : Rack} {a1 : Int} {ρ : Type} {A : Frame → Option ρ} {q : ρ} {ds : List D} {K : D → Prop} (hd : ds = [Rack.d a0, iN a1]) (h : ∀ r, A r = some q → K (Frame.d r)) (hF : (f33 N a0 a1).bind A = some q) : ∃ d, G33 ds d ∧ K d := by
  obtain ⟨r, hr, hA⟩ := bind_some hF
  exact ⟨_, ⟨N, a0, a1, r, hd, hr, rfl⟩, h r hA⟩
set_option maxRecDepth 20000 in
set_option maxHeartbeats 4000000 in
theorem P33 : PureOK Try.prog 33 G33 := by
  refine pure_of_vc (c := mkCtx tyTree []) rfl tyOK (ctx_nil) [[0, 0, 3, 1]] 2 Try.func33 rfl rfl (by decide) (by kernel_rfl) ?_
  rintro ds d ⟨N, a0, a1, r, rfl, hF, rfl⟩ hok
  clear hok
  refine ⟨rfl, ?_⟩
  show vc _ _ _ _ ⟨[(0, .dat (Rack.d a0)), (1, .dat (iN a1))], []⟩ _
  unfold f33 at hF
  repeat' (first
    | ((with_reducible first | refine q0 _ _ ?_ | refine q1 _ _ _ _ ?_ | refine q2 _ _ _ ?_); clear Q q0 q1 q2)
    | ((with_reducible first | refine seq_op ?hx (fun Q q0 q1 q2 => ?_) | refine draw_op ?hx (fun Q q0 q1 q2 => ?_) | refine seq_op0 ?hx (fun Q q0 q1 q2 => ?_) | refine draw_op0 ?hx (fun Q q0 q1 q2 => ?_)); (case hx => exact rfl); conv => whnf)
    | ((with_reducible first | refine seq_off ?hx ?_ | refine seq_off0 ?hx ?_ | refine draw_off ?hx ?_ | refine draw_off0 ?hx ?_ | refine k_blk_out ?hx ?_ | refine vc_condT ?hx ?_); (case hx => exact rfl))
    | ((with_reducible refine seq_id ?_); (first | ((first | refine seq_opK rfl ?hy (fun Q q0 q1 q2 => ?_) | refine seq_opK0 rfl ?hy (fun Q q0 q1 q2 => ?_)); (case hy => first | assumption | exact notT (by assumption) | exact rfl); conv => whnf) | ((first | refine seq_offK rfl ?hy ?_ | refine seq_offK0 rfl ?hy ?_); (case hy => first | assumption | exact notF (by assumption) | exact rfl)) | (revert hF; (with_reducible first | refine seq_opF ?hx ?_ ?_ | refine seq_opF0 ?hx ?_ ?_); (case hx => exact rfl); (intro hc hF Q q0 q1 q2; conv => whnf); rotate_left; (intro hc hF); rotate_right) | (revert hF; (with_reducible first | refine seq_opN ?hx ?_ ?_ | refine seq_opN0 ?hx ?_ ?_); (case hx => exact rfl); (intro hc hF); rotate_left; (intro hc hF Q q0 q1 q2; conv => whnf); rotate_right)))
    | ((with_reducible refine cond_id ?_); (first | ((refine condKT rfl ?hy ?_); (case hy => first | assumption | exact notT (by assumption) | exact rfl)) | ((refine condKF rfl ?hy ?_); (case hy => first | assumption | exact notF (by assumption) | exact rfl)) | (revert hF; (with_reducible refine condF ?hx ?_ ?_); (case hx => exact rfl); all_goals (intro hc hF))))
    | ((with_reducible refine seq_nil ?_); (first | ((with_reducible refine hR _ ?_); clear R hR) | ((with_reducible refine hL _ ?_); clear L hL)))
    | ((with_reducible refine draw_nil ?_); (with_reducible refine hR _ _ ?hx ?_); (case hx => kernel_rfl); (first | clear R hR | clear hR))
    | ((with_reducible first | refine int_step ?_ | refine len_step ?_ | refine idx2 (by assumption) ?_ | refine idx3 (by assumption) ?_); conv => whnf)
    | (with_reducible first | refine vc_block ?_ | refine vc_skip ?_ | refine vc_ret ?_ | refine vc_exit ?_ | refine vc_region (fun R hR => ?_) | refine k_seq_ret ?_ | refine k_seq_exit ?_ | refine k_blk ?_ | refine k_blk_ret ?_ | refine k_blk_here ?_ | refine k_loop_ret ?_ | refine k_loop_exit ?_)
    | ((with_reducible refine vc_seqN [11, 8] ?hx ?_); (case hx => exact rfl))
    | ((with_reducible refine vc_draw ?hx (fun R hR => ?_)); (case hx => exact rfl))
    | ((with_reducible refine seq_id' ?_); (with_reducible replace hF := chkJ (f := f33_c11 _) hF); revert hF; (refine Lp.cut1 Lf33_c11 f33_c11 11 rfl rfl ?_ ?_); (intro hF); rotate_left; (rintro b108_3 hF; dsimp only [Lf33_c11] at hF; unfold f33_c11 at hF); rotate_right)
    | ((with_reducible refine head_id ?_); (with_reducible replace hF := chkE (e := f33_c11 ..) hF); exact Lp.head Ef33_c11 hF _ ⟨_, rfl, rfl, rfl, rfl⟩ (by first | exact rfl | ((try dsimp only [Lf33_c11]); first | assumption | omega | (simp only [List.length_set]; done))))
    | ((with_reducible refine seq_id' ?_); (with_reducible replace hF := chkJ (f := f33_c8 _ _ _ _ _) hF); revert hF; (refine Lp.cut5 Lf33_c8 f33_c8 8 rfl rfl ?_ ?_); (intro hF); rotate_left; (rintro b108_3' hF; dsimp only [Lf33_c8] at hF; unfold f33_c8 at hF); rotate_right)
    | ((with_reducible refine head_id ?_); (with_reducible replace hF := chkE (e := f33_c8 ..) hF); exact Lp.head Ef33_c8 hF _ ⟨_, rfl, rfl, rfl, rfl⟩ (by first | exact rfl | ((try dsimp only [Lf33_c8]); first | assumption | omega | (simp only [List.length_set]; done))))
    | ((with_reducible refine loop_id ?_); (with_reducible replace hF := chkE (e := f33_3 ..) hF); revert hF; (refine Lp.loop Ef33_3 _ rfl ⟨_, rfl, rfl, rfl, rfl⟩ (by first | exact rfl | ((try dsimp only [Lf33_3]); first | assumption | omega | (simp only [List.length_set]; done))) (fun _ => rfl) ?_); rintro n ⟨v21, b108_3⟩ hF; dsimp only [Lf33_3, f33_3] at hF; unfold f33_3b at hF)
    | ((with_reducible refine back_id ?_); (with_reducible replace hF := chkE (e := f33_3 ..) hF); exact Lp.back Ef33_3 hF _ ⟨_, rfl, rfl, rfl, rfl⟩ (by first | exact rfl | ((try dsimp only [Lf33_3]); first | assumption | omega | (simp only [List.length_set]; done))))
    | (revert hF; (refine mkS_row (d := u16N) ?hz ?_); (case hz => exact rfl); intro x hF; conv => whnf)
    | (revert hF; (with_reducible refine idx1 ?hn ?_); (case hn => first | exact rfl | exact (List.length_map _) | assumption | omega | simp); intro x hx hF; conv => whnf)
    | ((refine row_all ?hn ?_); (case hn => first | exact rfl | (simp; done) | (simp; omega)); conv => whnf)
    | ((with_reducible refine le_step ?hn ?_); (case hn => first | exact rfl | assumption | omega); conv => whnf)
    | ((with_reducible have hG := setx_fact hF); clear hF; (refine setx_step hG ?hs (fun q hl hF => ?_)); (case hs => exact rfl); clear hG; conv => whnf)
    | ((refine ⟨?hx, ?_⟩); (case hx => exact ⟨rfl, Nat.le_of_ble_eq_true rfl, rfl⟩); conv => whnf)
    | ((with_reducible refine ex_step ?_); conv => whnf)
    | ((with_reducible have hG := chk_fact hF); clear hF; (refine ⟨?hx, ?_⟩); (case hx => (first | exact of_decide_eq_true hG.1 | exact hG.1)); have hF := hG.2; clear hG; conv => whnf)
    | ((with_reducible refine both_T ?hx ?_); (case hx => first | exact rfl | assumption | exact notT (by assumption)); conv => whnf)
    | ((with_reducible refine both_F ?hx ?_); (case hx => first | exact rfl | assumption | exact notF (by assumption)); conv => whnf)
    | (revert hF; (with_reducible refine ite_step ?_ ?_) <;> (intro hc hF; conv => whnf))
    | ((with_reducible refine vc_condF ?hx ?_); (case hx => exact rfl))
    | (show retD _ _ _ _ _ _; conv => whnf)
    | ((refine ⟨?hx, trivial⟩); (case hx => (cases hF; exact rfl)))
    | ((refine ⟨?hx, ?_⟩); (case hx => decide); conv => whnf)
    | with_reducible refine k_seq ?_
    | (have hF : (none : Option _) = some _ := hF; cases hF))
end
end Go.Vc
namespace Go.Vc
open Go.Proofs
set_option linter.unusedVariables false
set_option linter.unnecessarySimpa false
set_option linter.unusedSimpArgs false
section
variable {c : Ctx} {p nid : Nat} {a b : Code} {st : St} {K : Ex → St → Prop}
def f62 (N : Nat) (a0 : Int) (a1 : Int) : Option (Bool) :=
 (chk (decide (0 ≤ a1))).bind fun _ =>
 some (decide ((bitsI .and .u16 (Int.fdiv a0 (2 ^ (min (Int.toNat a1) 16))) (1 : Int)) = (1 : Int)))
def G62 (ds : List D) (d : D) : Prop := ∃ (N : Nat) (a0 : Int) (a1 : Int) (r : Bool), ds = [u16N a0, iN a1] ∧ f62 N a0 a1 = some r ∧ d = bN r
theorem G62.lend {N : Nat} {a0 : Int} {a1 : Int} {ρ : Type} {A : Bool → Option ρ} {q : ρ} {ds : List D} {K : D → Prop} (hd : ds = [u16N a0, iN a1]) (h : ∀ r, A r = some q → K (bN r)) (hF : (f62 N a0 a1).bind A = some q) : ∃ d, (G62 ds d ∧ d.flatB = true) ∧ K d := by
  obtain ⟨r, hr, hA⟩ := bind_some hF
  exact ⟨_, ⟨⟨N, a0, a1, r, hd, hr, rfl⟩, rfl⟩, h r hA⟩
set_option maxRecDepth 20000 in
set_option maxHeartbeats 4000000 in
theorem P62 : PureOK Try.prog 62 G62 := by
  refine pure_of_vc (c := mkCtx tyTree []) rfl tyOK (ctx_nil) [[0]] 2 Try.func62 rfl rfl (by decide) (by kernel_rfl) ?_
  rintro ds d ⟨N, a0, a1, r, rfl, hF, rfl⟩ hok
  clear hok
  refine ⟨rfl, ?_⟩
  show vc _ _ _ _ ⟨[(0, .dat (u16N a0)), (1, .dat (iN a1))], []⟩ _
  unfold f62 at hF
  repeat' (first
    | ((with_reducible first | refine q0 _ _ ?_ | refine q1 _ _ _ _ ?_ | refine q2 _ _ _ ?_); clear Q q0 q1 q2)
    | ((with_reducible first | refine seq_op ?hx (fun Q q0 q1 q2 => ?_)); (case hx => exact rfl); conv => whnf)
    | ((with_reducible refine seq_nil ?_); (first | ((with_reducible refine hR _ ?_); clear R hR) | ((with_reducible refine hL _ ?_); clear L hL)))
    | ((with_reducible first | refine int_step ?_); conv => whnf)
    | (with_reducible first | refine vc_skip ?_ | refine vc_ret ?_ | refine vc_region (fun R hR => ?_) | refine k_seq_ret ?_)
    | ((with_reducible refine vc_seqN [] ?hx ?_); (case hx => exact rfl))
    | ((refine row_all ?hn ?_); (case hn => first | exact rfl | (simp; done) | (simp; omega)); conv => whnf)
    | ((with_reducible refine le_step ?hn ?_); (case hn => first | exact rfl | assumption | omega); conv => whnf)
    | ((refine ⟨?hx, ?_⟩); (case hx => exact ⟨rfl, Nat.le_of_ble_eq_true rfl, rfl⟩); conv => whnf)
    | ((with_reducible refine ex_step ?_); conv => whnf)
    | ((with_reducible have hG := chk_fact hF); clear hF; (refine ⟨?hx, ?_⟩); (case hx => (first | exact of_decide_eq_true hG.1 | exact hG.1)); have hF := hG.2; clear hG; conv => whnf)
    | ((with_reducible refine both_T ?hx ?_); (case hx => first | exact rfl | assumption | exact notT (by assumption)); conv => whnf)
    | ((with_reducible refine both_F ?hx ?_); (case hx => first | exact rfl | assumption | exact notF (by assumption)); conv => whnf)
    | (revert hF; (with_reducible refine ite_step ?_ ?_) <;> (intro hc hF; conv => whnf))
    | (show retD _ _ _ _ _ _; conv => whnf)
    | ((refine ⟨?hx, trivial⟩); (case hx => (cases hF; exact rfl)))
    | ((refine ⟨?hx, ?_⟩); (case hx => decide); conv => whnf)
    | with_reducible refine k_seq ?_
    | (have hF : (none : Option _) = some _ := hF; cases hF))
end
end Go.Vc
namespace Go.Vc
open Go.Proofs
set_option linter.unusedVariables false
set_option linter.unnecessarySimpa false
set_option linter.unusedSimpArgs false
section
variable {c : Ctx} {p nid : Nat} {a b : Code} {st : St} {K : Ex → St → Prop}
def f61_c11 (out5 : Int) : Option (Int) :=
 some (out5)
def Lf61_c11 : Lp (Int) Unit (Int) := lp0 ⟨[5], [], [], []⟩ (fun out5 => [.dat (u16N out5)]) (fun _ => []) (fun out5 => f61_c11 out5)
theorem Ef61_c11 {out5} : (Lf61_c11).E out5 = f61_c11 out5 := rfl
def f61_c10 (a0 : Frame) (v13 : Int) (r3 : Int → Int → Option (Int)) (out5' : Int) : Option (Int) :=
 r3 (out5') (W (v13 + (1 : Int)))
def Lf61_c10 (a0 : Frame) (v13 : Int) (r3 : Int → Int → Option (Int)) : Lp (Int) Unit (Int) := lp0 ⟨[2, 5, 12, 13], [0], [], []⟩ (fun out5' => [.ptr 0 0, .dat (u16N (out5')), .dat (iN (List.length a0.arrows : Int)), .dat (iN v13)]) (fun _ => [.box [.dat (iN a0.Rack_.Rows), .dat (iN a0.Rack_.Columns), .dat (sl_Brace a0.Rack_.Braces), .dat (sl_u16N a0.arrows)]]) (fun out5' => f61_c10 a0 v13 r3 out5')
theorem Ef61_c10 {a0 v13 r3 out5'} : (Lf61_c10 a0 v13 r3).E out5' = f61_c10 a0 v13 r3 out5' := rfl
def f61_5b (r5 : Int → Int → Option (Int)) (a0 : Frame) (N : Nat) (v13 : Int) (k1 : Int → Option (Int)) (out5' : Int) (v18 : Int) : Option (Int) :=
 bif decide (v18 < (List.length a0.arrows : Int)) then ((ix a0.arrows v18).bind fun x1 =>
 (f62 N (out5') v18).bind fun x2 =>
 bif x2 then (r5 (bitsI .or .u16 (out5') x1) (W (v18 + (1 : Int))))
 else (r5 (out5') (W (v18 + (1 : Int)))))
 else (k1 (out5'))
def f61_5 (a0 : Frame) (N : Nat) (v13 : Int) (k1 : Int → Option (Int)) : Nat → Int → Int → Option (Int)
  | 0, _, _ => none
  | n + 1, out5', v18 => f61_5b (f61_5 a0 N v13 k1 n) a0 N v13 k1 out5' v18
def Lf61_5 (a0 : Frame) (N : Nat) (v13 : Int) (k1 : Int → Option (Int)) : Lp (Nat × Int × Int) Unit (Int) := lp0 ⟨[2, 5, 12, 13, 16, 17, 18], [0], [], []⟩ (fun (_, out5', v18) => [.ptr 0 0, .dat (u16N (out5')), .dat (iN (List.length a0.arrows : Int)), .dat (iN v13), .dat (sl_u16N a0.arrows), .dat (iN (List.length a0.arrows : Int)), .dat (iN v18)]) (fun (_, _, _) => [.box [.dat (iN a0.Rack_.Rows), .dat (iN a0.Rack_.Columns), .dat (sl_Brace a0.Rack_.Braces), .dat (sl_u16N a0.arrows)]]) (fun (n, out5', v18) => f61_5 a0 N v13 k1 n out5' v18)
theorem Ef61_5 {a0 N v13 k1 n out5' v18} : (Lf61_5 a0 N v13 k1).E (n, out5', v18) = f61_5 a0 N v13 k1 n out5' v18 := rfl
def f61_3b (r3 : Int → Int → Option (Int)) (a0 : Frame) (N : Nat) (k0 : Int → Option (Int)) (out5 : Int) (v13 : Int) : Option (Int) :=
 bif decide (v13 < (List.length a0.arrows : Int)) then (joinK (f61_c10 a0 v13 r3) fun k1 =>
 f61_5 a0 N v13 k1 N out5 (0 : Int))
 else (k0 out5)
def f61_3 (a0 : Frame) (N : Nat) (k0 : Int → Option (Int)) : Nat → Int → Int → Option (Int)
  | 0, _, _ => none
  | n + 1, out5, v13 => f61_3b (f61_3 a0 N k0 n) a0 N k0 out5 v13
def Lf61_3 (a0 : Frame) (N : Nat) (k0 : Int → Option (Int)) : Lp (Nat × Int × Int) Unit (Int) := lp0 ⟨[2, 5, 12, 13], [0], [], []⟩ (fun (_, out5, v13) => [.ptr 0 0, .dat (u16N out5), .dat (iN (List.length a0.arrows : Int)), .dat (iN v13)]) (fun (_, _, _) => [.box [.dat (iN a0.Rack_.Rows), .dat (iN a0.Rack_.Columns), .dat (sl_Brace a0.Rack_.Braces), .dat (sl_u16N a0.arrows)]]) (fun (n, out5, v13) => f61_3 a0 N k0 n out5 v13)
theorem Ef61_3 {a0 N k0 n out5 v13} : (Lf61_3 a0 N k0).E (n, out5, v13) = f61_3 a0 N k0 n out5 v13 := rfl
def f61 (N : Nat) (a0 : Frame) (a1 : Int) : Option (Int) :=
 (chk (decide (0 ≤ a1))).bind fun _ =>
 joinK f61_c11 fun k0 =>
 f61_3 a0 N k0 N (Wk .u16 ((1 : Int) * 2 ^ (min (Int.toNat a1) 16))) (0 : Int)
def G61 (ds : List D) (d : D) : Prop := ∃ (N : Nat) (a0 : Frame) (a1 : Int) (r : Int), ds = [Frame.d a0, iN a1] ∧ f61 N a0 a1 = some r ∧ d = u16N r
theorem G61.lend {N : Nat} {a0 : Frame} {a1 : Int} {ρ : Type} {A : Int → Option ρ} {q : ρ} {ds : List D} {K : D → Prop} (hd : ds = [Frame.d a0, iN a1]) (h : ∀ r, A r = some q → K (u16N r)) (hF : (f61 N a0 a1).bind A = some q) : ∃ d, (G61 ds d ∧ d.flatB = true) ∧ K d := by
  obtain ⟨r, hr, hA⟩ := bind_some hF
  exact ⟨_, ⟨⟨N, a0, a1, r, hd, hr, rfl⟩, rfl⟩, h r hA⟩
set_option maxRecDepth 20000 in
set_option maxHeartbeats 4000000 in
theorem P61 : PureOK Try.prog 61 G61 := by
  refine pure_of_vc (c := mkCtx tyTree [(62, true, lendPg [[0], [0]] G62)]) rfl tyOK (ctx_lend (callable Try.func62 rfl rfl) P62 (ctx_nil)) [[0]] 2 Try.func61 rfl rfl (by decide) (by kernel_rfl) ?_
  rintro ds d ⟨N, a0, a1, r, rfl, hF, rfl⟩ hok
  clear hok
  refine ⟨rfl, ?_⟩
  show vc _ _ _ _ ⟨[(0, .dat (Frame.d a0)), (1, .dat (iN a1))], []⟩ _
  unfold f61 at hF
  repeat' (first
    | ((with_reducible first | refine q0 _ _ ?_ | refine q1 _ _ _ _ ?_ | refine q2 _ _ _ ?_); clear Q q0 q1 q2)
    | ((with_reducible first | refine seq_op ?hx (fun Q q0 q1 q2 => ?_)); (case hx => exact rfl); conv => whnf)
    | ((with_reducible refine cond_id ?_); (first | ((refine condKT rfl ?hy ?_); (case hy => first | assumption | exact notT (by assumption) | exact rfl)) | ((refine condKF rfl ?hy ?_); (case hy => first | assumption | exact notF (by assumption) | exact rfl)) | (revert hF; (with_reducible refine condF ?hx ?_ ?_); (case hx => exact rfl); all_goals (intro hc hF))))
    | ((with_reducible refine seq_nil ?_); (first | ((with_reducible refine hR _ ?_); clear R hR) | ((with_reducible refine hL _ ?_); clear L hL)))
    | ((with_reducible first | refine int_step ?_ | refine len_step ?_ | refine idx2 (by assumption) ?_ | refine idx3 (by assumption) ?_); conv => whnf)
    | (with_reducible first | refine vc_block ?_ | refine vc_skip ?_ | refine vc_ret ?_ | refine vc_exit ?_ | refine vc_region (fun R hR => ?_) | refine k_seq_ret ?_ | refine k_seq_exit ?_ | refine k_blk ?_ | refine k_blk_ret ?_ | refine k_blk_here ?_ | refine k_loop_ret ?_ | refine k_loop_exit ?_)
    | ((with_reducible refine vc_seqN [11, 10] ?hx ?_); (case hx => exact rfl))
    | ((with_reducible refine seq_id' ?_); (with_reducible replace hF := chkJ (f := f61_c11) hF); revert hF; (refine Lp.cut0 Lf61_c11 f61_c11 11 rfl rfl ?_ ?_); (intro hF); rotate_left; (rintro out5 hF; dsimp only [Lf61_c11] at hF; unfold f61_c11 at hF); rotate_right)
    | ((with_reducible refine head_id ?_); (with_reducible replace hF := chkE (e := f61_c11 ..) hF); exact Lp.head Ef61_c11 hF () ⟨_, rfl, rfl, rfl, rfl⟩ rfl)
    | ((with_reducible refine seq_id' ?_); (with_reducible replace hF := chkJ (f := f61_c10 _ _ _) hF); revert hF; (refine Lp.cut3 Lf61_c10 f61_c10 10 rfl rfl ?_ ?_); (intro hF); rotate_left; (rintro out5' hF; dsimp only [Lf61_c10] at hF; unfold f61_c10 at hF); rotate_right)
    | ((with_reducible refine head_id ?_); (with_reducible replace hF := chkE (e := f61_c10 ..) hF); exact Lp.head Ef61_c10 hF () ⟨_, rfl, rfl, rfl, rfl⟩ rfl)
    | ((with_reducible refine loop_id ?_); (with_reducible replace hF := chkE (e := f61_5 ..) hF); revert hF; (refine Lp.loop Ef61_5 () rfl ⟨_, rfl, rfl, rfl, rfl⟩ rfl (fun _ => rfl) ?_); rintro n ⟨out5', v18⟩ hF; dsimp only [Lf61_5, f61_5] at hF; unfold f61_5b at hF)
    | ((with_reducible refine back_id ?_); (with_reducible replace hF := chkE (e := f61_5 ..) hF); exact Lp.back Ef61_5 hF () ⟨_, rfl, rfl, rfl, rfl⟩ rfl)
    | ((with_reducible refine loop_id ?_); (with_reducible replace hF := chkE (e := f61_3 ..) hF); revert hF; (refine Lp.loop Ef61_3 () rfl ⟨_, rfl, rfl, rfl, rfl⟩ rfl (fun _ => rfl) ?_); rintro n ⟨out5, v13⟩ hF; dsimp only [Lf61_3, f61_3] at hF; unfold f61_3b at hF)
    | ((with_reducible refine back_id ?_); (with_reducible replace hF := chkE (e := f61_3 ..) hF); exact Lp.back Ef61_3 hF () ⟨_, rfl, rfl, rfl, rfl⟩ rfl)
    | (revert hF; (with_reducible refine G62.lend ?hx ?_); (case hx => exact rfl); intro v hF; conv => whnf)
    | ((with_reducible first | refine k_blk_out ?hx ?_ | refine vc_condT ?hx ?_); (case hx => exact rfl))
    | (revert hF; (with_reducible refine idx1 ?hn ?_); (case hn => first | exact rfl | exact (List.length_map _) | assumption | omega | simp); intro x hx hF; conv => whnf)
    | ((refine row_all ?hn ?_); (case hn => first | exact rfl | (simp; done) | (simp; omega)); conv => whnf)
    | ((with_reducible refine le_step ?hn ?_); (case hn => first | exact rfl | assumption | omega); conv => whnf)
    | ((refine ⟨?hx, ?_⟩); (case hx => exact ⟨rfl, Nat.le_of_ble_eq_true rfl, rfl⟩); conv => whnf)
    | ((with_reducible refine ex_step ?_); conv => whnf)
    | ((with_reducible have hG := chk_fact hF); clear hF; (refine ⟨?hx, ?_⟩); (case hx => (first | exact of_decide_eq_true hG.1 | exact hG.1)); have hF := hG.2; clear hG; conv => whnf)
    | ((with_reducible refine both_T ?hx ?_); (case hx => first | exact rfl | assumption | exact notT (by assumption)); conv => whnf)
    | ((with_reducible refine both_F ?hx ?_); (case hx => first | exact rfl | assumption | exact notF (by assumption)); conv => whnf)
    | (revert hF; (with_reducible refine ite_step ?_ ?_) <;> (intro hc hF; conv => whnf))
    | ((with_reducible refine vc_condF ?hx ?_); (case hx => exact rfl))
    | (show retD _ _ _ _ _ _; conv => whnf)
    | ((refine ⟨?hx, trivial⟩); (case hx => (cases hF; exact rfl)))
    | ((refine ⟨?hx, ?_⟩); (case hx => decide); conv => whnf)
    | with_reducible refine k_seq ?_
    | (have hF : (none : Option _) = some _ := hF; cases hF))
end
end Go.Vc
namespace Go.Vc
open Go.Proofs
set_option linter.unusedVariables false
set_option linter.unnecessarySimpa false
set_option linter.unusedSimpArgs false
section
variable {c : Ctx} {p nid : Nat} {a b : Code} {st : St} {K : Ex → St → Prop}
def f53_c9 (out5 : Int) : Option (Int) :=
 some (out5)
def Lf53_c9 : Lp (Int) Unit (Int) := lp0 ⟨[5], [], [], []⟩ (fun out5 => [.dat (u16N out5)]) (fun _ => []) (fun out5 => f53_c9 out5)
theorem Ef53_c9 {out5} : (Lf53_c9).E out5 = f53_c9 out5 := rfl
def f53_4b (r4 : Int → Int → Option (Int)) (a0 : Frame) (a1 : Int) (N : Nat) (x1 : Int) (k0 : Int → Option (Int)) (out5 : Int) (v14 : Int) : Option (Int) :=
 bif decide (v14 < (List.length a0.arrows : Int)) then ((f62 N x1 v14).bind fun x2 =>
 bif x2 then ((f61 N a0 v14).bind fun x3 =>
 (f62 N x3 a1).bind fun x4 =>
 bif x4 then ((chk (decide (0 ≤ v14))).bind fun _ =>
 r4 (bitsI .or .u16 out5 (Wk .u16 ((1 : Int) * 2 ^ (min (Int.toNat v14) 16)))) (W (v14 + (1 : Int))))
 else (r4 out5 (W (v14 + (1 : Int)))))
 else (r4 out5 (W (v14 + (1 : Int)))))
 else (k0 out5)
def f53_4 (a0 : Frame) (a1 : Int) (N : Nat) (x1 : Int) (k0 : Int → Option (Int)) : Nat → Int → Int → Option (Int)
  | 0, _, _ => none
  | n + 1, out5, v14 => f53_4b (f53_4 a0 a1 N x1 k0 n) a0 a1 N x1 k0 out5 v14
def Lf53_4 (a0 : Frame) (a1 : Int) (N : Nat) (x1 : Int) (k0 : Int → Option (Int)) : Lp (Nat × Int × Int) Unit (Int) := lp0 ⟨[1, 2, 5, 6, 13, 14], [0], [], []⟩ (fun (_, out5, v14) => [.dat (iN a1), .ptr 0 0, .dat (u16N out5), .dat (u16N x1), .dat (iN (List.length a0.arrows : Int)), .dat (iN v14)]) (fun (_, _, _) => [.box [.dat (iN a0.Rack_.Rows), .dat (iN a0.Rack_.Columns), .dat (sl_Brace a0.Rack_.Braces), .dat (sl_u16N a0.arrows)]]) (fun (n, out5, v14) => f53_4 a0 a1 N x1 k0 n out5 v14)
theorem Ef53_4 {a0 a1 N x1 k0 n out5 v14} : (Lf53_4 a0 a1 N x1 k0).E (n, out5, v14) = f53_4 a0 a1 N x1 k0 n out5 v14 := rfl
def f53 (N : Nat) (a0 : Frame) (a1 : Int) : Option (Int) :=
 (f61 N a0 a1).bind fun x1 =>
 joinK f53_c9 fun k0 =>
 f53_4 a0 a1 N x1 k0 N (0 : Int) (0 : Int)
def G53 (ds : List D) (d : D) : Prop := ∃ (N : Nat) (a0 : Frame) (a1 : Int) (r : Int), ds = [Frame.d a0, iN a1] ∧ f53 N a0 a1 = some r ∧ d = u16N r
theorem G53.lend {N : Nat} {a0 : Frame} {a1 : Int} {ρ : Type} {A : Int → Option ρ} {q : ρ} {ds : List D} {K : D → Prop} (hd : ds = [Frame.d a0, iN a1]) (h : ∀ r, A r = some q → K (u16N r)) (hF : (f53 N a0 a1).bind A = some q) : ∃ d, (G53 ds d ∧ d.flatB = true) ∧ K d := by
  obtain ⟨r, hr, hA⟩ := bind_some hF
  exact ⟨_, ⟨⟨N, a0, a1, r, hd, hr, rfl⟩, rfl⟩, h r hA⟩
set_option maxRecDepth 20000 in
set_option maxHeartbeats 4000000 in
theorem P53 : PureOK Try.prog 53 G53 := by
  refine pure_of_vc (c := mkCtx tyTree [(62, true, lendPg [[0], [0]] G62), (61, true, lendPg [[0, 0, 3, 1], [0]] G61)]) rfl tyOK (ctx_lend (callable Try.func62 rfl rfl) P62 (ctx_lend (callable Try.func61 rfl rfl) P61 (ctx_nil))) [[0]] 2 Try.func53 rfl rfl (by decide) (by kernel_rfl) ?_
  rintro ds d ⟨N, a0, a1, r, rfl, hF, rfl⟩ hok
  clear hok
  refine ⟨rfl, ?_⟩
  show vc _ _ _ _ ⟨[(0, .dat (Frame.d a0)), (1, .dat (iN a1))], []⟩ _
  unfold f53 at hF
  repeat' (first
    | ((with_reducible first | refine q0 _ _ ?_ | refine q1 _ _ _ _ ?_ | refine q2 _ _ _ ?_); clear Q q0 q1 q2)
    | ((with_reducible first | refine seq_op ?hx (fun Q q0 q1 q2 => ?_)); (case hx => exact rfl); conv => whnf)
    | ((with_reducible first | refine seq_off ?hx ?_ | refine seq_off0 ?hx ?_ | refine k_blk_out ?hx ?_ | refine vc_condT ?hx ?_); (case hx => exact rfl))
    | ((with_reducible refine seq_id ?_); (first | ((first | refine seq_opK rfl ?hy (fun Q q0 q1 q2 => ?_) | refine seq_opK0 rfl ?hy (fun Q q0 q1 q2 => ?_)); (case hy => first | assumption | exact notT (by assumption) | exact rfl); conv => whnf) | ((first | refine seq_offK rfl ?hy ?_ | refine seq_offK0 rfl ?hy ?_); (case hy => first | assumption | exact notF (by assumption) | exact rfl)) | (revert hF; (with_reducible first | refine seq_opF ?hx ?_ ?_ | refine seq_opF0 ?hx ?_ ?_); (case hx => exact rfl); (intro hc hF Q q0 q1 q2; conv => whnf); rotate_left; (intro hc hF); rotate_right) | (revert hF; (with_reducible first | refine seq_opN ?hx ?_ ?_ | refine seq_opN0 ?hx ?_ ?_); (case hx => exact rfl); (intro hc hF); rotate_left; (intro hc hF Q q0 q1 q2; conv => whnf); rotate_right)))
    | ((with_reducible refine cond_id ?_); (first | ((refine condKT rfl ?hy ?_); (case hy => first | assumption | exact notT (by assumption) | exact rfl)) | ((refine condKF rfl ?hy ?_); (case hy => first | assumption | exact notF (by assumption) | exact rfl)) | (revert hF; (with_reducible refine condF ?hx ?_ ?_); (case hx => exact rfl); all_goals (intro hc hF))))
    | ((with_reducible refine seq_nil ?_); (first | ((with_reducible refine hR _ ?_); clear R hR) | ((with_reducible refine hL _ ?_); clear L hL)))
    | ((with_reducible first | refine int_step ?_ | refine len_step ?_); conv => whnf)
    | (with_reducible first | refine vc_block ?_ | refine vc_skip ?_ | refine vc_ret ?_ | refine vc_exit ?_ | refine vc_region (fun R hR => ?_) | refine k_seq_ret ?_ | refine k_seq_exit ?_ | refine k_blk ?_ | refine k_blk_ret ?_ | refine k_blk_here ?_ | refine k_loop_ret ?_ | refine k_loop_exit ?_)
    | ((with_reducible refine vc_seqN [9] ?hx ?_); (case hx => exact rfl))
    | ((with_reducible refine seq_id' ?_); (with_reducible replace hF := chkJ (f := f53_c9) hF); revert hF; (refine Lp.cut0 Lf53_c9 f53_c9 9 rfl rfl ?_ ?_); (intro hF); rotate_left; (rintro out5 hF; dsimp only [Lf53_c9] at hF; unfold f53_c9 at hF); rotate_right)
    | ((with_reducible refine head_id ?_); (with_reducible replace hF := chkE (e := f53_c9 ..) hF); exact Lp.head Ef53_c9 hF () ⟨_, rfl, rfl, rfl, rfl⟩ rfl)
    | ((with_reducible refine loop_id ?_); (with_reducible replace hF := chkE (e := f53_4 ..) hF); revert hF; (refine Lp.loop Ef53_4 () rfl ⟨_, rfl, rfl, rfl, rfl⟩ rfl (fun _ => rfl) ?_); rintro n ⟨out5, v14⟩ hF; dsimp only [Lf53_4, f53_4] at hF; unfold f53_4b at hF)
    | ((with_reducible refine back_id ?_); (with_reducible replace hF := chkE (e := f53_4 ..) hF); exact Lp.back Ef53_4 hF () ⟨_, rfl, rfl, rfl, rfl⟩ rfl)
    | (revert hF; (with_reducible refine G61.lend ?hx ?_); (case hx => exact rfl); intro v hF; conv => whnf)
    | (revert hF; (with_reducible refine G62.lend ?hx ?_); (case hx => exact rfl); intro v hF; conv => whnf)
    | ((refine row_all ?hn ?_); (case hn => first | exact rfl | (simp; done) | (simp; omega)); conv => whnf)
    | ((with_reducible refine le_step ?hn ?_); (case hn => first | exact rfl | assumption | omega); conv => whnf)
    | ((refine ⟨?hx, ?_⟩); (case hx => exact ⟨rfl, Nat.le_of_ble_eq_true rfl, rfl⟩); conv => whnf)
    | ((with_reducible refine ex_step ?_); conv => whnf)
    | ((with_reducible have hG := chk_fact hF); clear hF; (refine ⟨?hx, ?_⟩); (case hx => (first | exact of_decide_eq_true hG.1 | exact hG.1)); have hF := hG.2; clear hG; conv => whnf)
    | ((with_reducible refine both_T ?hx ?_); (case hx => first | exact rfl | assumption | exact notT (by assumption)); conv => whnf)
    | ((with_reducible refine both_F ?hx ?_); (case hx => first | exact rfl | assumption | exact notF (by assumption)); conv => whnf)
    | (revert hF; (with_reducible refine ite_step ?_ ?_) <;> (intro hc hF; conv => whnf))
    | ((with_reducible refine vc_condF ?hx ?_); (case hx => exact rfl))
    | (show retD _ _ _ _ _ _; conv => whnf)
    | ((refine ⟨?hx, trivial⟩); (case hx => (cases hF; exact rfl)))
    | ((refine ⟨?hx, ?_⟩); (case hx => decide); conv => whnf)
    | with_reducible refine k_seq ?_
    | (have hF : (none : Option _) = some _ := hF; cases hF))
end
end Go.Vc
namespace Go.Vc
open Go.Proofs
set_option linter.unusedVariables false
set_option linter.unnecessarySimpa false
set_option linter.unusedSimpArgs false
section
variable {c : Ctx} {p nid : Nat} {a b : Code} {st : St} {K : Ex → St → Prop}
def f54 (N : Nat) (a0 : Frame) : Option (Int) :=
 (chk (decide (0 ≤ (W (a0.Rack_.Rows + a0.Rack_.Columns))))).bind fun _ =>
 some (Wk .u16 ((Wk .u16 ((1 : Int) * 2 ^ (min (Int.toNat (W (a0.Rack_.Rows + a0.Rack_.Columns))) 16))) - (1 : Int)))
def G54 (ds : List D) (d : D) : Prop := ∃ (N : Nat) (a0 : Frame) (r : Int), ds = [Frame.d a0] ∧ f54 N a0 = some r ∧ d = u16N r
theorem G54.lend {N : Nat} {a0 : Frame} {ρ : Type} {A : Int → Option ρ} {q : ρ} {ds : List D} {K : D → Prop} (hd : ds = [Frame.d a0]) (h : ∀ r, A r = some q → K (u16N r)) (hF : (f54 N a0).bind A = some q) : ∃ d, (G54 ds d ∧ d.flatB = true) ∧ K d := by
  obtain ⟨r, hr, hA⟩ := bind_some hF
  exact ⟨_, ⟨⟨N, a0, r, hd, hr, rfl⟩, rfl⟩, h r hA⟩
set_option maxRecDepth 20000 in
set_option maxHeartbeats 4000000 in
theorem P54 : PureOK Try.prog 54 G54 := by
  refine pure_of_vc (c := mkCtx tyTree []) rfl tyOK (ctx_nil) [[0]] 1 Try.func54 rfl rfl (by decide) (by kernel_rfl) ?_
  rintro ds d ⟨N, a0, r, rfl, hF, rfl⟩ hok
  clear hok
  refine ⟨rfl, ?_⟩
  show vc _ _ _ _ ⟨[(0, .dat (Frame.d a0))], []⟩ _
  unfold f54 at hF
  repeat' (first
    | ((with_reducible first | refine q0 _ _ ?_ | refine q1 _ _ _ _ ?_ | refine q2 _ _ _ ?_); clear Q q0 q1 q2)
    | ((with_reducible first | refine seq_op ?hx (fun Q q0 q1 q2 => ?_)); (case hx => exact rfl); conv => whnf)
    | ((with_reducible refine seq_nil ?_); (first | ((with_reducible refine hR _ ?_); clear R hR) | ((with_reducible refine hL _ ?_); clear L hL)))
    | ((with_reducible first | refine int_step ?_); conv => whnf)
    | (with_reducible first | refine vc_skip ?_ | refine vc_ret ?_ | refine vc_region (fun R hR => ?_) | refine k_seq_ret ?_)
    | ((with_reducible refine vc_seqN [] ?hx ?_); (case hx => exact rfl))
    | ((refine row_all ?hn ?_); (case hn => first | exact rfl | (simp; done) | (simp; omega)); conv => whnf)
    | ((with_reducible refine le_step ?hn ?_); (case hn => first | exact rfl | assumption | omega); conv => whnf)
    | ((refine ⟨?hx, ?_⟩); (case hx => exact ⟨rfl, Nat.le_of_ble_eq_true rfl, rfl⟩); conv => whnf)
    | ((with_reducible refine ex_step ?_); conv => whnf)
    | ((with_reducible have hG := chk_fact hF); clear hF; (refine ⟨?hx, ?_⟩); (case hx => (first | exact of_decide_eq_true hG.1 | exact hG.1)); have hF := hG.2; clear hG; conv => whnf)
    | ((with_reducible refine both_T ?hx ?_); (case hx => first | exact rfl | assumption | exact notT (by assumption)); conv => whnf)
    | ((with_reducible refine both_F ?hx ?_); (case hx => first | exact rfl | assumption | exact notF (by assumption)); conv => whnf)
    | (revert hF; (with_reducible refine ite_step ?_ ?_) <;> (intro hc hF; conv => whnf))
    | (show retD _ _ _ _ _ _; conv => whnf)
    | ((refine ⟨?hx, trivial⟩); (case hx => (cases hF; exact rfl)))
    | ((refine ⟨?hx, ?_⟩); (case hx => decide); conv => whnf)
    | with_reducible refine k_seq ?_
    | (have hF : (none : Option _) = some _ := hF; cases hF))
end
end Go.Vc
namespace Go.Vc
open Go.Proofs
set_option linter.unusedVariables false
set_option linter.unnecessarySimpa false
set_option linter.unusedSimpArgs false
section
variable {c : Ctx} {p nid : Nat} {a b : Code} {st : St} {K : Ex → St → Prop}
def f34 (N : Nat) (a0 : Frame) : Option (Bool) :=
 (f53 N a0 (0 : Int)).bind fun x1 =>
 (f54 N a0).bind fun x2 =>
 some (decide (x1 = x2))
def G34 (ds : List D) (d : D) : Prop := ∃ (N : Nat) (a0 : Frame) (r : Bool), ds = [Frame.d a0] ∧ f34 N a0 = some r ∧ d = bN r
theorem G34.lend {N : Nat} {a0 : Frame} {ρ : Type} {A : Bool → Option ρ} {q : ρ} {ds : List D} {K : D → Prop} (hd : ds = [Frame.d a0]) (h : ∀ r, A r = some q → K (bN r)) (hF : (f34 N a0).bind A = some q) : ∃ d, (G34 ds d ∧ d.flatB = true) ∧ K d := by
  obtain ⟨r, hr, hA⟩ := bind_some hF
  exact ⟨_, ⟨⟨N, a0, r, hd, hr, rfl⟩, rfl⟩, h r hA⟩
set_option maxRecDepth 20000 in
set_option maxHeartbeats 4000000 in
theorem P34 : PureOK Try.prog 34 G34 := by
  refine pure_of_vc (c := mkCtx tyTree [(54, true, lendPg [[0, 0, 3, 1]] G54), (53, true, lendPg [[0, 0, 3, 1], [0]] G53)]) rfl tyOK (ctx_lend (callable Try.func54 rfl rfl) P54 (ctx_lend (callable Try.func53 rfl rfl) P53 (ctx_nil))) [[0]] 1 Try.func34 rfl rfl (by decide) (by kernel_rfl) ?_
  rintro ds d ⟨N, a0, r, rfl, hF, rfl⟩ hok
  clear hok
  refine ⟨rfl, ?_⟩
  show vc _ _ _ _ ⟨[(0, .dat (Frame.d a0))], []⟩ _
  unfold f34 at hF
  repeat' (first
    | ((with_reducible first | refine q0 _ _ ?_ | refine q1 _ _ _ _ ?_ | refine q2 _ _ _ ?_); clear Q q0 q1 q2)
    | ((with_reducible first | refine seq_op ?hx (fun Q q0 q1 q2 => ?_) | refine draw_op ?hx (fun Q q0 q1 q2 => ?_)); (case hx => exact rfl); conv => whnf)
    | ((with_reducible refine seq_nil ?_); (first | ((with_reducible refine hR _ ?_); clear R hR) | ((with_reducible refine hL _ ?_); clear L hL)))
    | ((with_reducible refine draw_nil ?_); (with_reducible refine hR _ _ ?hx ?_); (case hx => kernel_rfl); (first | clear R hR | clear hR))
    | ((with_reducible first | refine int_step ?_); conv => whnf)
    | (with_reducible first | refine vc_skip ?_ | refine vc_ret ?_ | refine vc_region (fun R hR => ?_) | refine k_seq_ret ?_)
    | ((with_reducible refine vc_seqN [] ?hx ?_); (case hx => exact rfl))
    | ((with_reducible refine vc_draw ?hx (fun R hR => ?_)); (case hx => exact rfl))
    | (revert hF; (with_reducible refine G53.lend ?hx ?_); (case hx => exact rfl); intro v hF; conv => whnf)
    | (revert hF; (with_reducible refine G54.lend ?hx ?_); (case hx => exact rfl); intro v hF; conv => whnf)
    | ((refine row_all ?hn ?_); (case hn => first | exact rfl | (simp; done) | (simp; omega)); conv => whnf)
    | ((with_reducible refine le_step ?hn ?_); (case hn => first | exact rfl | assumption | omega); conv => whnf)
    | ((refine ⟨?hx, ?_⟩); (case hx => exact ⟨rfl, Nat.le_of_ble_eq_true rfl, rfl⟩); conv => whnf)
    | ((with_reducible refine ex_step ?_); conv => whnf)
    | ((with_reducible refine both_T ?hx ?_); (case hx => first | exact rfl | assumption | exact notT (by assumption)); conv => whnf)
    | ((with_reducible refine both_F ?hx ?_); (case hx => first | exact rfl | assumption | exact notF (by assumption)); conv => whnf)
    | (revert hF; (with_reducible refine ite_step ?_ ?_) <;> (intro hc hF; conv => whnf))
    | (show retD _ _ _ _ _ _; conv => whnf)
    | ((refine ⟨?hx, trivial⟩); (case hx => (cases hF; exact rfl)))
    | ((refine ⟨?hx, ?_⟩); (case hx => decide); conv => whnf)
    | with_reducible refine k_seq ?_
    | (have hF : (none : Option _) = some _ := hF; cases hF))
end
end Go.Vc
namespace Go.Vc
open Go.Proofs
set_option linter.unusedVariables false
set_option linter.unnecessarySimpa false
set_option linter.unusedSimpArgs false
section
variable {c : Ctx} {p nid : Nat} {a b : Code} {st : St} {K : Ex → St → Prop}
def f15 (N : Nat) (a0 : Rack) : Option (Bool × Int) :=
 (f32 N a0).bind fun x1 =>
 bif decide (¬ x1 = (0 : Int)) then (some (false, x1))
 else ((f33 N a0 (-1 : Int)).bind fun x2 =>
 (f34 N x2).bind fun x3 =>
 some (x3, (0 : Int)))
def G15 (ds : List D) (d : D) : Prop := ∃ (N : Nat) (a0 : Rack) (r : Bool × Int), ds = [Rack.d a0] ∧ f15 N a0 = some r ∧ d = .tup [bN r.1, iN r.2]
theorem G15.lend {N : Nat} {a0 : Rack} {ρ : Type} {A : (Bool × Int) → Option ρ} {q : ρ} {ds : List D} {K : D → Prop} (hd : ds = [Rack.d a0]) (h : ∀ r, A r = some q → K (.tup [bN r.1, iN r.2])) (hF : (f15 N a0).bind A = some q) : ∃ d, (G15 ds d ∧ d.flatB = true) ∧ K d := by
  obtain ⟨r, hr, hA⟩ := bind_some hF
  exact ⟨_, ⟨⟨N, a0, r, hd, hr, rfl⟩, rfl⟩, h r hA⟩
set_option maxRecDepth 20000 in
set_option maxHeartbeats 4000000 in
theorem P15 : PureOK Try.prog 15 G15 := by
  refine pure_of_vc (c := mkCtx tyTree [(34, true, lendPg [[0, 0, 3, 1]] G34), (33, true, purePg [[0, 0, 3], [0]] G33), (32, true, lendPg [[0, 0, 3]] G32)]) rfl tyOK (ctx_lend (callable Try.func34 rfl rfl) P34 (ctx_cons (callable Try.func33 rfl rfl) P33 (ctx_lend (callable Try.func32 rfl rfl) P32 (ctx_nil)))) [[0], [0]] 1 Try.func15 rfl rfl (by decide) (by kernel_rfl) ?_
  rintro ds d ⟨N, a0, r, rfl, hF, rfl⟩ hok
  clear hok
  refine ⟨rfl, ?_⟩
  show vc _ _ _ _ ⟨[(0, .dat (Rack.d a0))], []⟩ _
  unfold f15 at hF
  repeat' (first
    | ((with_reducible first | refine q0 _ _ ?_ | refine q1 _ _ _ _ ?_ | refine q2 _ _ _ ?_); clear Q q0 q1 q2)
    | ((with_reducible first | refine seq_op ?hx (fun Q q0 q1 q2 => ?_)); (case hx => exact rfl); conv => whnf)
    | ((with_reducible refine cond_id ?_); (first | ((refine condKT rfl ?hy ?_); (case hy => first | assumption | exact notT (by assumption) | exact rfl)) | ((refine condKF rfl ?hy ?_); (case hy => first | assumption | exact notF (by assumption) | exact rfl)) | (revert hF; (with_reducible refine condF ?hx ?_ ?_); (case hx => exact rfl); all_goals (intro hc hF))))
    | ((with_reducible refine seq_nil ?_); (first | ((with_reducible refine hR _ ?_); clear R hR) | ((with_reducible refine hL _ ?_); clear L hL)))
    | ((with_reducible first | refine int_step ?_); conv => whnf)
    | (with_reducible first | refine vc_block ?_ | refine vc_skip ?_ | refine vc_ret ?_ | refine vc_exit ?_ | refine vc_region (fun R hR => ?_) | refine k_seq_ret ?_ | refine k_seq_exit ?_ | refine k_blk ?_ | refine k_blk_ret ?_ | refine k_blk_here ?_)
    | ((with_reducible refine vc_seqN [] ?hx ?_); (case hx => exact rfl))
    | (revert hF; (with_reducible refine G32.lend ?hx ?_); (case hx => exact rfl); intro v hF; conv => whnf)
    | (revert hF; (with_reducible refine G33.step ?hx ?_); (case hx => exact rfl); intro v hF; conv => whnf)
    | (revert hF; (with_reducible refine G34.lend ?hx ?_); (case hx => exact rfl); intro v hF; conv => whnf)
    | ((with_reducible first | refine k_blk_out ?hx ?_ | refine vc_condT ?hx ?_); (case hx => exact rfl))
    | ((refine row_all ?hn ?_); (case hn => first | exact rfl | (simp; done) | (simp; omega)); conv => whnf)
    | ((with_reducible refine le_step ?hn ?_); (case hn => first | exact rfl | assumption | omega); conv => whnf)
    | ((refine ⟨?hx, ?_⟩); (case hx => exact ⟨rfl, Nat.le_of_ble_eq_true rfl, rfl⟩); conv => whnf)
    | ((with_reducible refine ex_step ?_); conv => whnf)
    | ((with_reducible refine both_T ?hx ?_); (case hx => first | exact rfl | assumption | exact notT (by assumption)); conv => whnf)
    | ((with_reducible refine both_F ?hx ?_); (case hx => first | exact rfl | assumption | exact notF (by assumption)); conv => whnf)
    | (revert hF; (with_reducible refine ite_step ?_ ?_) <;> (intro hc hF; conv => whnf))
    | ((with_reducible refine vc_condF ?hx ?_); (case hx => exact rfl))
    | (show retD _ _ _ _ _ _; conv => whnf)
    | ((refine ⟨?hx, trivial⟩); (case hx => (cases hF; exact rfl)))
    | ((refine ⟨?hx, ?_⟩); (case hx => decide); conv => whnf)
    | with_reducible refine k_seq ?_
    | (have hF : (none : Option _) = some _ := hF; cases hF))
end
end Go.Vc

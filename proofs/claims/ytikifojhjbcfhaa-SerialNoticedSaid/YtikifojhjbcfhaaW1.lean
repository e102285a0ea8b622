/-
  A library for proofs about Go functions by symbolic evaluation, and plain Lean functions that the walked Go functions compute (written by a program of this claim).
-/
import Derived.Test.YtikifojhjbcfhaaVc3
import Derived.Test.YtikifojhjbcfhaaProg
namespace Go.Vc
open Go.Proofs
set_option maxRecDepth 20000
def tyTree : Tree (Option TI) :=
  (.node (.node (.node (.node (.node (.node (.node (.node .leaf (some ⟨.ptr, 1, 8, false, [0], [.pointer none]⟩) .leaf) (some ⟨.fn, 1, 8, false, [0], [.nilFunc]⟩) (.node .leaf none .leaf)) (some ⟨.fn, 1, 8, false, [0], [.nilFunc]⟩) (.node (.node .leaf (some ⟨.fn, 1, 8, false, [0], [.nilFunc]⟩) .leaf) (some ⟨(.slice 95 3 true), 1, 24, false, [3], [.slice none 0 0]⟩) (.node .leaf (some ⟨.fn, 1, 8, false, [0], [.nilFunc]⟩) .leaf))) (some ⟨.ptr, 1, 8, false, [0], [.pointer none]⟩) (.node (.node (.node .leaf none .leaf) none (.node .leaf none .leaf)) (some ⟨.fn, 1, 8, false, [0], [.nilFunc]⟩) (.node (.node .leaf (some ⟨(.arr 0 1 false), 0, 0, true, [], []⟩) .leaf) (some ⟨.fn, 1, 8, false, [0], [.nilFunc]⟩) (.node .leaf none .leaf)))) none (.node (.node (.node (.node .leaf none .leaf) (some ⟨.fn, 1, 8, false, [0], [.nilFunc]⟩) (.node .leaf (some ⟨.fn, 1, 8, false, [0], [.nilFunc]⟩) .leaf)) (some ⟨.fn, 1, 8, false, [0], [.nilFunc]⟩) (.node (.node .leaf none .leaf) (some ⟨.fn, 1, 8, false, [0], [.nilFunc]⟩) (.node .leaf none .leaf))) (some ⟨.ptr, 1, 8, false, [0], [.pointer none]⟩) (.node (.node (.node .leaf (some ⟨.fn, 1, 8, false, [0], [.nilFunc]⟩) .leaf) (some ⟨.fn, 1, 8, false, [0], [.nilFunc]⟩) (.node .leaf (some ⟨.ptr, 1, 8, false, [0], [.pointer none]⟩) .leaf)) (some ⟨.fn, 1, 8, false, [0], [.nilFunc]⟩) (.node (.node .leaf none .leaf) (some ⟨.fn, 1, 8, false, [0], [.nilFunc]⟩) (.node .leaf none .leaf))))) (some ⟨(.int .i64), 1, 8, false, [0], [.int .i64 0]⟩) (.node (.node (.node (.node (.node .leaf (some ⟨(.struct [(0, 1, false), (1, 1, false), (2, 1, false), (3, 1, false), (4, 1, false), (5, 1, false), (6, 1, false), (7, 1, false), (8, 1, false), (9, 1, false), (10, 1, false)]), 11, 48, true, [0, 0, 0, 0, 0, 0, 0, 0, 0, 0, 0], [.int .u64 0, .int .u64 0, .int .u32 0, .int .u8 0, .int .u8 0, .int .u8 0, .int .u8 0, .nilFunc, .pointer none, .int .i32 0, .int .i32 0]⟩) .leaf) (some ⟨(.mp 73 4), 1, 8, false, [0], [.map none]⟩) (.node .leaf none .leaf)) (some ⟨(.slice 55 2 true), 1, 24, false, [2], [.slice none 0 0]⟩) (.node (.node .leaf none .leaf) (some ⟨(.struct [(0, 1, false), (1, 1, false), (2, 1, false)]), 3, 24, true, [0, 0, 0], [.int .i64 0, .int .i64 0, .int .i64 0]⟩) .leaf)) (some ⟨.ptr, 1, 8, false, [0], [.pointer none]⟩) (.node (.node .leaf (some ⟨(.struct [(0, 1, false), (1, 1, false), (2, 1, false)]), 3, 24, true, [0, 0, 0], [.int .i64 0, .int .i64 0, .int .i64 0]⟩) .leaf) none (.node .leaf (some ⟨.fn, 1, 8, false, [0], [.nilFunc]⟩) .leaf))) none (.node (.node (.node .leaf (some ⟨.fn, 1, 8, false, [0], [.nilFunc]⟩) .leaf) (some ⟨.fn, 1, 8, false, [0], [.nilFunc]⟩) (.node .leaf (some ⟨.fn, 1, 8, false, [0], [.nilFunc]⟩) .leaf)) none (.node (.node .leaf (some ⟨.fn, 1, 8, false, [0], [.nilFunc]⟩) .leaf) (some ⟨(.slice 83 2 true), 1, 24, false, [2], [.slice none 0 0]⟩) (.node .leaf (some ⟨.fn, 1, 8, false, [0], [.nilFunc]⟩) .leaf))))) (some ⟨.fn, 1, 8, false, [0], [.nilFunc]⟩) (.node (.node (.node (.node (.node .leaf (some ⟨.fn, 1, 8, false, [0], [.nilFunc]⟩) .leaf) none (.node .leaf (some ⟨.fn, 1, 8, false, [0], [.nilFunc]⟩) .leaf)) none (.node (.node .leaf (some ⟨.fn, 1, 8, false, [0], [.nilFunc]⟩) .leaf) (some ⟨.fn, 1, 8, false, [0], [.nilFunc]⟩) (.node .leaf (some ⟨.fn, 1, 8, false, [0], [.nilFunc]⟩) .leaf))) (some ⟨.str, 1, 16, false, [0], [.string ⟨#[]⟩]⟩) (.node (.node (.node .leaf (some ⟨(.struct [(0, 1, false), (1, 1, false)]), 2, 16, true, [0, 0], [.int .i64 0, .int .i64 0]⟩) .leaf) none (.node .leaf (some ⟨.fn, 1, 8, false, [0], [.nilFunc]⟩) .leaf)) (some ⟨.iface, 1, 16, false, [0], [.nilIface]⟩) (.node (.node .leaf (some ⟨.fn, 1, 8, false, [0], [.nilFunc]⟩) .leaf) (some ⟨.fn, 1, 8, false, [0], [.nilFunc]⟩) (.node .leaf (some ⟨.fn, 1, 8, false, [0], [.nilFunc]⟩) .leaf)))) (some ⟨.bool, 1, 1, false, [0], [.bool false]⟩) (.node (.node (.node (.node .leaf (some ⟨.fn, 1, 8, false, [0], [.nilFunc]⟩) .leaf) (some ⟨.fn, 1, 8, false, [0], [.nilFunc]⟩) (.node .leaf (some ⟨.fn, 1, 8, false, [0], [.nilFunc]⟩) .leaf)) (some ⟨(.int .i32), 1, 4, false, [0], [.int .i32 0]⟩) (.node (.node .leaf (some ⟨.fn, 1, 8, false, [0], [.nilFunc]⟩) .leaf) (some ⟨.fn, 1, 8, false, [0], [.nilFunc]⟩) (.node .leaf (some ⟨.fn, 1, 8, false, [0], [.nilFunc]⟩) .leaf))) none (.node (.node (.node .leaf (some ⟨.fn, 1, 8, false, [0], [.nilFunc]⟩) .leaf) (some ⟨.fn, 1, 8, false, [0], [.nilFunc]⟩) (.node .leaf (some ⟨.fn, 1, 8, false, [0], [.nilFunc]⟩) .leaf)) (some ⟨.fn, 1, 8, false, [0], [.nilFunc]⟩) (.node (.node .leaf (some ⟨.fn, 1, 8, false, [0], [.nilFunc]⟩) .leaf) (some ⟨.fn, 1, 8, false, [0], [.nilFunc]⟩) (.node .leaf (some ⟨.fn, 1, 8, false, [0], [.nilFunc]⟩) .leaf)))))) none (.node (.node (.node (.node (.node (.node .leaf (some ⟨(.struct [(0, 1, false), (1, 1, false), (2, 1, false)]), 3, 24, true, [0, 0, 0], [.int .i64 0, .int .i64 0, .int .i64 0]⟩) .leaf) (some ⟨.fn, 1, 8, false, [0], [.nilFunc]⟩) (.node .leaf (some ⟨.fn, 1, 8, false, [0], [.nilFunc]⟩) .leaf)) none (.node (.node .leaf (some ⟨.fn, 1, 8, false, [0], [.nilFunc]⟩) .leaf) (some ⟨(.arr 5 1 false), 5, 5, true, [0, 0, 0, 0, 0], [.int .u8 0, .int .u8 0, .int .u8 0, .int .u8 0, .int .u8 0]⟩) (.node .leaf (some ⟨.fn, 1, 8, false, [0], [.nilFunc]⟩) .leaf))) none (.node (.node (.node .leaf (some ⟨.fn, 1, 8, false, [0], [.nilFunc]⟩) .leaf) (some ⟨(.struct [(0, 1, false), (1, 1, false), (2, 5, true), (7, 5, true), (12, 5, true)]), 17, 17, true, [0, 0, 0, 0, 0, 0, 0, 0, 0, 0, 0, 0, 0, 0, 0, 0, 0], [.int .u8 0, .int .u8 0, .int .u8 0, .int .u8 0, .int .u8 0, .int .u8 0, .int .u8 0, .int .u8 0, .int .u8 0, .int .u8 0, .int .u8 0, .int .u8 0, .int .u8 0, .int .u8 0, .int .u8 0, .int .u8 0, .int .u8 0]⟩) (.node .leaf none .leaf)) (some ⟨.fn, 1, 8, false, [0], [.nilFunc]⟩) (.node (.node .leaf (some ⟨.fn, 1, 8, false, [0], [.nilFunc]⟩) .leaf) (some ⟨(.struct [(0, 1, false), (1, 1, false), (2, 5, true), (7, 5, true), (12, 5, true)]), 17, 17, true, [0, 0, 0, 0, 0, 0, 0, 0, 0, 0, 0, 0, 0, 0, 0, 0, 0], [.int .u8 0, .int .u8 0, .int .u8 0, .int .u8 0, .int .u8 0, .int .u8 0, .int .u8 0, .int .u8 0, .int .u8 0, .int .u8 0, .int .u8 0, .int .u8 0, .int .u8 0, .int .u8 0, .int .u8 0, .int .u8 0, .int .u8 0]⟩) (.node .leaf (some ⟨.fn, 1, 8, false, [0], [.nilFunc]⟩) .leaf)))) (some ⟨(.int .u8), 1, 1, false, [0], [.int .u8 0]⟩) (.node (.node (.node (.node .leaf (some ⟨.fn, 1, 8, false, [0], [.nilFunc]⟩) .leaf) (some ⟨(.slice 5 1 false), 1, 24, false, [1], [.slice none 0 0]⟩) (.node .leaf (some ⟨.fn, 1, 8, false, [0], [.nilFunc]⟩) .leaf)) (some ⟨.fn, 1, 8, false, [0], [.nilFunc]⟩) (.node (.node .leaf (some ⟨.fn, 1, 8, false, [0], [.nilFunc]⟩) .leaf) (some ⟨.fn, 1, 8, false, [0], [.nilFunc]⟩) (.node .leaf (some ⟨(.arr 10 1 false), 10, 10, true, [0, 0, 0, 0, 0, 0, 0, 0, 0, 0], [.bool false, .bool false, .bool false, .bool false, .bool false, .bool false, .bool false, .bool false, .bool false, .bool false]⟩) .leaf))) (some ⟨(.int .u64), 1, 8, false, [0], [.int .u64 0]⟩) (.node (.node (.node .leaf (some ⟨.fn, 1, 8, false, [0], [.nilFunc]⟩) .leaf) (some ⟨.fn, 1, 8, false, [0], [.nilFunc]⟩) (.node .leaf (some ⟨.fn, 1, 8, false, [0], [.nilFunc]⟩) .leaf)) (some ⟨(.slice 27 1 false), 1, 24, false, [1], [.slice none 0 0]⟩) (.node (.node .leaf (some ⟨(.int .u64), 1, 8, false, [0], [.int .u64 0]⟩) .leaf) (some ⟨(.struct [(0, 1, false), (1, 1, false)]), 2, 16, true, [0, 0], [.int .i64 0, .int .i64 0]⟩) (.node .leaf (some ⟨.fn, 1, 8, false, [0], [.nilFunc]⟩) .leaf))))) (some ⟨(.int .i64), 1, 8, false, [0], [.int .i64 0]⟩) (.node (.node (.node (.node (.node .leaf (some ⟨(.int .i64), 1, 8, false, [0], [.int .i64 0]⟩) .leaf) (some ⟨(.struct [(0, 1, false), (1, 1, false)]), 2, 16, true, [0, 0], [.int .i64 0, .int .i64 0]⟩) (.node .leaf none .leaf)) (some ⟨(.slice 3 1 false), 1, 24, false, [1], [.slice none 0 0]⟩) (.node (.node .leaf (some ⟨.fn, 1, 8, false, [0], [.nilFunc]⟩) .leaf) (some ⟨.fn, 1, 8, false, [0], [.nilFunc]⟩) (.node .leaf (some ⟨.fn, 1, 8, false, [0], [.nilFunc]⟩) .leaf))) none (.node (.node (.node .leaf (some ⟨.fn, 1, 8, false, [0], [.nilFunc]⟩) .leaf) (some ⟨(.int .u16), 1, 2, false, [0], [.int .u16 0]⟩) (.node .leaf (some ⟨.fn, 1, 8, false, [0], [.nilFunc]⟩) .leaf)) (some ⟨.fn, 1, 8, false, [0], [.nilFunc]⟩) (.node (.node .leaf (some ⟨.fn, 1, 8, false, [0], [.nilFunc]⟩) .leaf) (some ⟨.fn, 1, 8, false, [0], [.nilFunc]⟩) (.node .leaf (some ⟨(.int .u32), 1, 4, false, [0], [.int .u32 0]⟩) .leaf)))) none (.node (.node (.node (.node .leaf (some ⟨.fn, 1, 8, false, [0], [.nilFunc]⟩) .leaf) none (.node .leaf (some ⟨(.int .u64), 1, 8, false, [0], [.int .u64 0]⟩) .leaf)) (some ⟨(.int .i64), 1, 8, false, [0], [.int .i64 0]⟩) (.node (.node .leaf (some ⟨(.int .u64), 1, 8, false, [0], [.int .u64 0]⟩) .leaf) (some ⟨.fn, 1, 8, false, [0], [.nilFunc]⟩) (.node .leaf (some ⟨.fn, 1, 8, false, [0], [.nilFunc]⟩) .leaf))) none (.node (.node (.node .leaf (some ⟨.fn, 1, 8, false, [0], [.nilFunc]⟩) .leaf) (some ⟨(.slice 73 3 true), 1, 24, false, [3], [.slice none 0 0]⟩) (.node .leaf (some ⟨.fn, 1, 8, false, [0], [.nilFunc]⟩) .leaf)) none (.node (.node .leaf (some ⟨.ptr, 1, 8, false, [0], [.pointer none]⟩) .leaf) none (.node .leaf (some ⟨.fn, 1, 8, false, [0], [.nilFunc]⟩) .leaf)))))))
theorem tyOK : TyOK Try.prog tyTree := ty_ok (by kernel_rfl)
end Go.Vc
namespace Go.Vc
open Go.Proofs
set_option linter.unusedVariables false
set_option linter.unnecessarySimpa false
set_option linter.unusedSimpArgs false
structure Fix where
  At : Int
  Digit : Int
  deriving DecidableEq, Inhabited
def Fix.d (x : Fix) : D := .agg [iN x.At, iN x.Digit]
structure A5u8N where
  e0 : Int
  e1 : Int
  e2 : Int
  e3 : Int
  e4 : Int
  deriving DecidableEq, Inhabited
def A5u8N.d (x : A5u8N) : D := .agg [u8N x.e0, u8N x.e1, u8N x.e2, u8N x.e3, u8N x.e4]
structure Plate where
  Base : Int
  Step : Int
  Rows : A5u8N
  Columns : A5u8N
  Numbers : A5u8N
  deriving DecidableEq, Inhabited
def Plate.d (x : Plate) : D := .agg [u8N x.Base, u8N x.Step, u8N x.Rows.e0, u8N x.Rows.e1, u8N x.Rows.e2, u8N x.Rows.e3, u8N x.Rows.e4, u8N x.Columns.e0, u8N x.Columns.e1, u8N x.Columns.e2, u8N x.Columns.e3, u8N x.Columns.e4, u8N x.Numbers.e0, u8N x.Numbers.e1, u8N x.Numbers.e2, u8N x.Numbers.e3, u8N x.Numbers.e4]
structure Spot where
  State : Int
  A : Int
  B : Int
  deriving DecidableEq, Inhabited
def Spot.d (x : Spot) : D := .agg [iN x.State, iN x.A, iN x.B]
theorem Spot.d_inj : ∀ a b : Spot, a.d = b.d → a = b := by
  rintro ⟨a0, a1, a2⟩ ⟨b0, b1, b2⟩ h
  simp only [Spot.d, iN, u8N, bN, strN] at h
  cases h; rfl
def sl_iN (l : List Int) : D := .sl 1 (l.map iN)
def sl_sl_iN (l : List (List Int)) : D := .sl 1 (l.map sl_iN)
def sl_u8N (l : List Int) : D := .sl 1 (l.map u8N)
def sl_Fix (l : List Fix) : D := .sl 2 (l.map Fix.d)
def sl_Spot (l : List Spot) : D := .sl 3 (l.map Spot.d)
end Go.Vc
namespace Go.Vc
open Go.Proofs
set_option linter.unusedVariables false
set_option linter.unnecessarySimpa false
set_option linter.unusedSimpArgs false
section
variable {c : Ctx} {p nid : Nat} {a b : Code} {st : St} {K : Ex → St → Prop}
/- f16: tusche/serial.Value -/
def f16_c9 (n2 : Int) : Option (Int × Bool) :=
 some (n2, true)
def Lf16_c9 : Lp (Int) Unit (Int × Bool) := lp0 ⟨[2], [], [], []⟩ (fun n2 => [.dat (iN n2)]) (fun _ => []) (fun n2 => f16_c9 n2)
theorem Ef16_c9 {n2} : (Lf16_c9).E n2 = f16_c9 n2 := rfl
def f16_4b (r4 : Int → Nat → Option (Int × Bool)) (a0 : ByteArray) (k0 : Int → Option (Int × Bool)) (n2 : Int) (p301 : Nat) : Option (Int × Bool) :=
 bif decide (p301 < ByteArray.size a0) then ((some (runeAt a0 p301)).bind fun x1 =>
 bif decide (x1.1 < (48 : Int)) then (some ((0 : Int), false))
 else (bif decide ((57 : Int) < x1.1) then (some ((0 : Int), false))
 else (r4 (W ((W ((10 : Int) * n2)) + (Wk .i32 (x1.1 - (48 : Int))))) x1.2)))
 else (k0 n2)
def f16_4 (a0 : ByteArray) (k0 : Int → Option (Int × Bool)) : Nat → Int → Nat → Option (Int × Bool)
  | 0, _, _ => none
  | n + 1, n2, p301 => f16_4b (f16_4 a0 k0 n) a0 k0 n2 p301
def Lf16_4 (a0 : ByteArray) (k0 : Int → Option (Int × Bool)) : Lp (Nat × Int × Nat) Unit (Int × Bool) := lp0 ⟨[2, 23], [301], [], []⟩ (fun (_, n2, _) => [.dat (iN n2), .ptr 301 0]) (fun (_, _, p301) => [.sit a0 p301]) (fun (n, n2, p301) => f16_4 a0 k0 n n2 p301)
theorem Ef16_4 {a0 k0 n n2 p301} : (Lf16_4 a0 k0).E (n, n2, p301) = f16_4 a0 k0 n n2 p301 := rfl
def f16_c3 (a0 : ByteArray) (N : Nat) : Option (Int × Bool) :=
 joinK f16_c9 fun k0 =>
 f16_4 a0 k0 N (0 : Int) 0
def Lf16_c3 (a0 : ByteArray) (N : Nat) : Lp (Unit) Unit (Int × Bool) := lp0 ⟨[0, 2], [], [], []⟩ (fun _ => [.dat (strN a0), .dat (iN (0 : Int))]) (fun _ => []) (fun _ => f16_c3 a0 N)
theorem Ef16_c3 {a0 N} : (Lf16_c3 a0 N).E () = f16_c3 a0 N := rfl
def f16 (N : Nat) (a0 : ByteArray) : Option (Int × Bool) :=
 joinK (f16_c3 a0 N) fun k1 =>
 bif decide (a0 = emptyS) then (some ((0 : Int), false))
 else (bif decide ((8 : Int) < (ByteArray.size a0 : Int)) then (some ((0 : Int), false))
 else ((idxS a0 (0 : Int)).bind fun x2 =>
 bif decide (x2 = (48 : Int)) then (bif decide (¬ a0 = (strC [48])) then (some ((0 : Int), false))
 else k1)
 else k1))
def G16 (ds : List D) (d : D) : Prop := ∃ (N : Nat) (a0 : ByteArray) (r : Int × Bool), ds = [strN a0] ∧ f16 N a0 = some r ∧ d = .tup [iN r.1, bN r.2]
theorem G16.lend {N : Nat} {a0 : ByteArray} {ρ : Type} {A : (Int × Bool) → Option ρ} {q : ρ} {ds : List D} {K : D → Prop} (hd : ds = [strN a0]) (h : ∀ r, A r = some q → K (.tup [iN r.1, bN r.2])) (hF : (f16 N a0).bind A = some q) : ∃ d, (G16 ds d ∧ d.flatB = true) ∧ K d := by
  obtain ⟨r, hr, hA⟩ := bind_some hF
  exact ⟨_, ⟨⟨N, a0, r, hd, hr, rfl⟩, rfl⟩, h r hA⟩
theorem G16.step {N : Nat} {a0 : ByteArray} {ρ : Type} {A : (Int × Bool) → Option ρ} {q : ρ} {ds : List D} {K : D → Prop} (hd : ds = [strN a0]) (h : ∀ r, A r = some q → K (.tup [iN r.1, bN r.2])) (hF : (f16 N a0).bind A = some q) : ∃ d, G16 ds d ∧ K d := by
  obtain ⟨r, hr, hA⟩ := bind_some hF
  exact ⟨_, ⟨N, a0, r, hd, hr, rfl⟩, h r hA⟩
set_option maxRecDepth 20000 in
set_option maxHeartbeats 4000000 in
theorem P16 : PureOK Try.prog 16 G16 := by
  refine pure_of_vc (c := mkCtx tyTree []) rfl tyOK (ctx_nil) [[0], [0]] 1 Try.func16 rfl rfl (by decide) (by kernel_rfl) ?_
  rintro ds d ⟨N, a0, r, rfl, hF, rfl⟩ hok
  clear hok
  refine ⟨rfl, ?_⟩
  show vc _ _ _ _ ⟨[(0, .dat (strN a0))], []⟩ _
  unfold f16 at hF
  repeat' (first
    | ((with_reducible first | refine q0 _ _ ?_ | refine q1 _ _ _ _ ?_ | refine q2 _ _ _ ?_); clear Q q0 q1 q2)
    | ((with_reducible first | refine seq_op ?hx (fun Q q0 q1 q2 => ?_)); (case hx => exact rfl); conv => whnf)
    | ((with_reducible first | refine seq_off ?hx ?_ | refine seq_off0 ?hx ?_ | refine k_blk_out ?hx ?_ | refine vc_condT ?hx ?_); (case hx => exact rfl))
    | ((with_reducible refine seq_id ?_); (first | ((first | refine seq_opK rfl ?hy (fun Q q0 q1 q2 => ?_) | refine seq_opK0 rfl ?hy (fun Q q0 q1 q2 => ?_)); (case hy => first | assumption | exact notT (by assumption) | exact rfl); conv => whnf) | ((first | refine seq_offK rfl ?hy ?_ | refine seq_offK0 rfl ?hy ?_); (case hy => first | assumption | exact notF (by assumption) | exact rfl)) | (revert hF; (with_reducible first | refine seq_opF ?hx ?_ ?_ | refine seq_opF0 ?hx ?_ ?_); (case hx => exact rfl); (intro hc hF Q q0 q1 q2; conv => whnf); rotate_left; (intro hc hF); rotate_right) | (revert hF; (with_reducible first | refine seq_opN ?hx ?_ ?_ | refine seq_opN0 ?hx ?_ ?_); (case hx => exact rfl); (intro hc hF); rotate_left; (intro hc hF Q q0 q1 q2; conv => whnf); rotate_right)))
    | ((with_reducible refine cond_id ?_); (first | ((refine condKT rfl ?hy ?_); (case hy => first | assumption | exact notT (by assumption) | exact rfl)) | ((refine condKF rfl ?hy ?_); (case hy => first | assumption | exact notF (by assumption) | exact rfl)) | (revert hF; (with_reducible refine condF ?hx ?_ ?_); (case hx => exact rfl); all_goals (intro hc hF))))
    | ((with_reducible refine seq_nil ?_); (first | ((with_reducible refine hR _ ?_); clear R hR) | ((with_reducible refine hL _ ?_); clear L hL)))
    | ((with_reducible first | refine int_step ?_); conv => whnf)
    | (with_reducible first | refine vc_block ?_ | refine vc_skip ?_ | refine vc_ret ?_ | refine vc_exit ?_ | refine vc_region (fun R hR => ?_) | refine k_seq_ret ?_ | refine k_seq_exit ?_ | refine k_blk ?_ | refine k_blk_ret ?_ | refine k_blk_here ?_ | refine k_loop_ret ?_ | refine k_loop_exit ?_)
    | ((with_reducible refine vc_seqN [9, 3] ?hx ?_); (case hx => exact rfl))
    | (revert hF; (refine Lp.cut0 Lf16_c9 f16_c9 9 rfl rfl ?_ ?_); (intro hF); rotate_left; (rintro n2 hF; dsimp only [Lf16_c9] at hF; unfold f16_c9 at hF); rotate_right)
    | exact Lp.head Ef16_c9 hF () ⟨_, rfl, rfl, rfl, rfl⟩ rfl
    | (revert hF; (refine Lp.loop Ef16_4 () rfl ⟨_, rfl, rfl, rfl, rfl⟩ rfl (fun _ => rfl) ?_); rintro n ⟨n2, p301⟩ hF; dsimp only [Lf16_4, f16_4] at hF; unfold f16_4b at hF)
    | exact Lp.back Ef16_4 hF () ⟨_, rfl, rfl, rfl, rfl⟩ rfl
    | (revert hF; (refine Lp.cut2 Lf16_c3 f16_c3 3 rfl rfl ?_ ?_); (intro hF); rotate_left; (rintro _ hF; dsimp only [Lf16_c3] at hF; unfold f16_c3 at hF); rotate_right)
    | exact Lp.head Ef16_c3 hF () ⟨_, rfl, rfl, rfl, rfl⟩ rfl
    | (revert hF; (refine idxS_step ?_); intro x hF; conv => whnf)
    | (revert hF; (refine some_step ?_); intro x hF; conv => whnf)
    | ((refine row_all ?hn ?_); (case hn => first | exact rfl | (simp; done) | (simp; omega)); conv => whnf)
    | ((with_reducible refine le_step ?hn ?_); (case hn => first | exact rfl | assumption | omega); conv => whnf)
    | ((refine ⟨?hx, ?_⟩); (case hx => exact ⟨rfl, Nat.le_of_ble_eq_true rfl, rfl⟩); conv => whnf)
    | ((with_reducible refine ex_step ?_); conv => whnf)
    | ((with_reducible refine both_T ?hx ?_); (case hx => first | exact rfl | assumption | exact notT (by assumption)); conv => whnf)
    | ((with_reducible refine both_F ?hx ?_); (case hx => first | exact rfl | assumption | exact notF (by assumption)); conv => whnf)
    | (revert hF; (with_reducible refine ite_step ?_ ?_) <;> (intro hc hF; conv => whnf))
    | ((with_reducible refine vc_condF ?hx ?_); (case hx => exact rfl))
    | (show retD _ _ _ _ _ _; conv => whnf)
    | ((refine ⟨?hx, trivial⟩); (case hx => (cases hF; exact rfl)))
    | ((refine ⟨?hx, ?_⟩); (case hx => decide); conv => whnf)
    | with_reducible refine k_seq ?_
    | (have hF : (none : Option _) = some _ := hF; cases hF))
end
end Go.Vc
namespace Go.Vc
open Go.Proofs
set_option linter.unusedVariables false
set_option linter.unnecessarySimpa false
set_option linter.unusedSimpArgs false
section
variable {c : Ctx} {p nid : Nat} {a b : Code} {st : St} {K : Ex → St → Prop}
/- f18: tusche/serial.Name -/
def f18_c6 (a0 : ByteArray) : Option (Bool) :=
 bif decide (¬ a0 = emptyS) then (some (decide ((ByteArray.size a0 : Int) ≤ (9 : Int))))
 else (some (false))
def Lf18_c6 (a0 : ByteArray) : Lp (Unit) Unit (Bool) := lp0 ⟨[0], [], [], []⟩ (fun _ => [.dat (strN a0)]) (fun _ => []) (fun _ => f18_c6 a0)
theorem Ef18_c6 {a0} : (Lf18_c6 a0).E () = f18_c6 a0 := rfl
def f18_2b (r2 : Nat → Option (Bool)) (a0 : ByteArray) (k0 : Option (Bool)) (p101 : Nat) : Option (Bool) :=
 bif decide (p101 < ByteArray.size a0) then ((some (runeAt a0 p101)).bind fun x1 =>
 bif decide (x1.1 < (97 : Int)) then (some (false))
 else (bif decide ((122 : Int) < x1.1) then (some (false))
 else (r2 x1.2)))
 else k0
def f18_2 (a0 : ByteArray) (k0 : Option (Bool)) : Nat → Nat → Option (Bool)
  | 0, _ => none
  | n + 1, p101 => f18_2b (f18_2 a0 k0 n) a0 k0 p101
def Lf18_2 (a0 : ByteArray) (k0 : Option (Bool)) : Lp (Nat × Nat) Unit (Bool) := lp0 ⟨[0, 6], [101], [], []⟩ (fun (_, _) => [.dat (strN a0), .ptr 101 0]) (fun (_, p101) => [.sit a0 p101]) (fun (n, p101) => f18_2 a0 k0 n p101)
theorem Ef18_2 {a0 k0 n p101} : (Lf18_2 a0 k0).E (n, p101) = f18_2 a0 k0 n p101 := rfl
def f18 (N : Nat) (a0 : ByteArray) : Option (Bool) :=
 joinK (f18_c6 a0) fun k0 =>
 f18_2 a0 k0 N 0
def G18 (ds : List D) (d : D) : Prop := ∃ (N : Nat) (a0 : ByteArray) (r : Bool), ds = [strN a0] ∧ f18 N a0 = some r ∧ d = bN r
theorem G18.lend {N : Nat} {a0 : ByteArray} {ρ : Type} {A : Bool → Option ρ} {q : ρ} {ds : List D} {K : D → Prop} (hd : ds = [strN a0]) (h : ∀ r, A r = some q → K (bN r)) (hF : (f18 N a0).bind A = some q) : ∃ d, (G18 ds d ∧ d.flatB = true) ∧ K d := by
  obtain ⟨r, hr, hA⟩ := bind_some hF
  exact ⟨_, ⟨⟨N, a0, r, hd, hr, rfl⟩, rfl⟩, h r hA⟩
theorem G18.step {N : Nat} {a0 : ByteArray} {ρ : Type} {A : Bool → Option ρ} {q : ρ} {ds : List D} {K : D → Prop} (hd : ds = [strN a0]) (h : ∀ r, A r = some q → K (bN r)) (hF : (f18 N a0).bind A = some q) : ∃ d, G18 ds d ∧ K d := by
  obtain ⟨r, hr, hA⟩ := bind_some hF
  exact ⟨_, ⟨N, a0, r, hd, hr, rfl⟩, h r hA⟩
set_option maxRecDepth 20000 in
set_option maxHeartbeats 4000000 in
theorem P18 : PureOK Try.prog 18 G18 := by
  refine pure_of_vc (c := mkCtx tyTree []) rfl tyOK (ctx_nil) [[0]] 1 Try.func18 rfl rfl (by decide) (by kernel_rfl) ?_
  rintro ds d ⟨N, a0, r, rfl, hF, rfl⟩ hok
  clear hok
  refine ⟨rfl, ?_⟩
  show vc _ _ _ _ ⟨[(0, .dat (strN a0))], []⟩ _
  unfold f18 at hF
  repeat' (first
    | ((with_reducible first | refine q0 _ _ ?_ | refine q1 _ _ _ _ ?_ | refine q2 _ _ _ ?_); clear Q q0 q1 q2)
    | ((with_reducible first | refine seq_op ?hx (fun Q q0 q1 q2 => ?_)); (case hx => exact rfl); conv => whnf)
    | ((with_reducible first | refine seq_off ?hx ?_ | refine seq_off0 ?hx ?_ | refine k_blk_out ?hx ?_ | refine vc_condT ?hx ?_); (case hx => exact rfl))
    | ((with_reducible refine seq_id ?_); (first | ((first | refine seq_opK rfl ?hy (fun Q q0 q1 q2 => ?_) | refine seq_opK0 rfl ?hy (fun Q q0 q1 q2 => ?_)); (case hy => first | assumption | exact notT (by assumption) | exact rfl); conv => whnf) | ((first | refine seq_offK rfl ?hy ?_ | refine seq_offK0 rfl ?hy ?_); (case hy => first | assumption | exact notF (by assumption) | exact rfl)) | (revert hF; (with_reducible first | refine seq_opF ?hx ?_ ?_ | refine seq_opF0 ?hx ?_ ?_); (case hx => exact rfl); (intro hc hF Q q0 q1 q2; conv => whnf); rotate_left; (intro hc hF); rotate_right) | (revert hF; (with_reducible first | refine seq_opN ?hx ?_ ?_ | refine seq_opN0 ?hx ?_ ?_); (case hx => exact rfl); (intro hc hF); rotate_left; (intro hc hF Q q0 q1 q2; conv => whnf); rotate_right)))
    | ((with_reducible refine cond_id ?_); (first | ((refine condKT rfl ?hy ?_); (case hy => first | assumption | exact notT (by assumption) | exact rfl)) | ((refine condKF rfl ?hy ?_); (case hy => first | assumption | exact notF (by assumption) | exact rfl)) | (revert hF; (with_reducible refine condF ?hx ?_ ?_); (case hx => exact rfl); all_goals (intro hc hF))))
    | ((with_reducible refine seq_nil ?_); (first | ((with_reducible refine hR _ ?_); clear R hR) | ((with_reducible refine hL _ ?_); clear L hL)))
    | ((with_reducible first | refine int_step ?_); conv => whnf)
    | (with_reducible first | refine vc_block ?_ | refine vc_skip ?_ | refine vc_ret ?_ | refine vc_exit ?_ | refine vc_region (fun R hR => ?_) | refine k_seq_ret ?_ | refine k_seq_exit ?_ | refine k_blk ?_ | refine k_blk_ret ?_ | refine k_blk_here ?_ | refine k_loop_ret ?_ | refine k_loop_exit ?_)
    | ((with_reducible refine vc_seqN [6] ?hx ?_); (case hx => exact rfl))
    | (revert hF; (refine Lp.cut1 Lf18_c6 f18_c6 6 rfl rfl ?_ ?_); (intro hF); rotate_left; (rintro _ hF; dsimp only [Lf18_c6] at hF; unfold f18_c6 at hF); rotate_right)
    | exact Lp.head Ef18_c6 hF () ⟨_, rfl, rfl, rfl, rfl⟩ rfl
    | (revert hF; (refine Lp.loop Ef18_2 () rfl ⟨_, rfl, rfl, rfl, rfl⟩ rfl (fun _ => rfl) ?_); rintro n p101 hF; dsimp only [Lf18_2, f18_2] at hF; unfold f18_2b at hF)
    | exact Lp.back Ef18_2 hF () ⟨_, rfl, rfl, rfl, rfl⟩ rfl
    | (revert hF; (refine some_step ?_); intro x hF; conv => whnf)
    | ((refine row_all ?hn ?_); (case hn => first | exact rfl | (simp; done) | (simp; omega)); conv => whnf)
    | ((with_reducible refine le_step ?hn ?_); (case hn => first | exact rfl | assumption | omega); conv => whnf)
    | ((refine ⟨?hx, ?_⟩); (case hx => exact ⟨rfl, Nat.le_of_ble_eq_true rfl, rfl⟩); conv => whnf)
    | ((with_reducible refine ex_step ?_); conv => whnf)
    | ((with_reducible refine both_T ?hx ?_); (case hx => first | exact rfl | assumption | exact notT (by assumption)); conv => whnf)
    | ((with_reducible refine both_F ?hx ?_); (case hx => first | exact rfl | assumption | exact notF (by assumption)); conv => whnf)
    | (revert hF; (with_reducible refine ite_step ?_ ?_) <;> (intro hc hF; conv => whnf))
    | ((with_reducible refine vc_condF ?hx ?_); (case hx => exact rfl))
    | (show retD _ _ _ _ _ _; conv => whnf)
    | ((refine ⟨?hx, trivial⟩); (case hx => (cases hF; exact rfl)))
    | ((refine ⟨?hx, ?_⟩); (case hx => decide); conv => whnf)
    | with_reducible refine k_seq ?_
    | (have hF : (none : Option _) = some _ := hF; cases hF))
end
end Go.Vc
namespace Go.Vc
open Go.Proofs
set_option linter.unusedVariables false
set_option linter.unnecessarySimpa false
set_option linter.unusedSimpArgs false
section
variable {c : Ctx} {p nid : Nat} {a b : Code} {st : St} {K : Ex → St → Prop}
/- f64: tusche/serial.between -/
def f64 (N : Nat) (a0 : Int) (a1 : Int) (a2 : Int) : Option (Bool) :=
 bif decide (a0 ≤ a1) then (some (decide (a1 ≤ a2)))
 else (some (false))
def G64 (ds : List D) (d : D) : Prop := ∃ (N : Nat) (a0 : Int) (a1 : Int) (a2 : Int) (r : Bool), ds = [iN a0, iN a1, iN a2] ∧ f64 N a0 a1 a2 = some r ∧ d = bN r
theorem G64.lend {N : Nat} {a0 : Int} {a1 : Int} {a2 : Int} {ρ : Type} {A : Bool → Option ρ} {q : ρ} {ds : List D} {K : D → Prop} (hd : ds = [iN a0, iN a1, iN a2]) (h : ∀ r, A r = some q → K (bN r)) (hF : (f64 N a0 a1 a2).bind A = some q) : ∃ d, (G64 ds d ∧ d.flatB = true) ∧ K d := by
  obtain ⟨r, hr, hA⟩ := bind_some hF
  exact ⟨_, ⟨⟨N, a0, a1, a2, r, hd, hr, rfl⟩, rfl⟩, h r hA⟩
theorem G64.step {N : Nat} {a0 : Int} {a1 : Int} {a2 : Int} {ρ : Type} {A : Bool → Option ρ} {q : ρ} {ds : List D} {K : D → Prop} (hd : ds = [iN a0, iN a1, iN a2]) (h : ∀ r, A r = some q → K (bN r)) (hF : (f64 N a0 a1 a2).bind A = some q) : ∃ d, G64 ds d ∧ K d := by
  obtain ⟨r, hr, hA⟩ := bind_some hF
  exact ⟨_, ⟨N, a0, a1, a2, r, hd, hr, rfl⟩, h r hA⟩
set_option maxRecDepth 20000 in
set_option maxHeartbeats 4000000 in
theorem P64 : PureOK Try.prog 64 G64 := by
  refine pure_of_vc (c := mkCtx tyTree []) rfl tyOK (ctx_nil) [[0]] 3 Try.func64 rfl rfl (by decide) (by kernel_rfl) ?_
  rintro ds d ⟨N, a0, a1, a2, r, rfl, hF, rfl⟩ hok
  clear hok
  refine ⟨rfl, ?_⟩
  show vc _ _ _ _ ⟨[(0, .dat (iN a0)), (1, .dat (iN a1)), (2, .dat (iN a2))], []⟩ _
  unfold f64 at hF
  repeat' (first
    | ((with_reducible first | refine q0 _ _ ?_ | refine q1 _ _ _ _ ?_ | refine q2 _ _ _ ?_); clear Q q0 q1 q2)
    | ((with_reducible first | refine seq_op ?hx (fun Q q0 q1 q2 => ?_)); (case hx => exact rfl); conv => whnf)
    | ((with_reducible first | refine seq_off ?hx ?_ | refine seq_off0 ?hx ?_); (case hx => exact rfl))
    | ((with_reducible refine seq_id ?_); (first | ((first | refine seq_opK rfl ?hy (fun Q q0 q1 q2 => ?_) | refine seq_opK0 rfl ?hy (fun Q q0 q1 q2 => ?_)); (case hy => first | assumption | exact notT (by assumption) | exact rfl); conv => whnf) | ((first | refine seq_offK rfl ?hy ?_ | refine seq_offK0 rfl ?hy ?_); (case hy => first | assumption | exact notF (by assumption) | exact rfl)) | (revert hF; (with_reducible first | refine seq_opF ?hx ?_ ?_ | refine seq_opF0 ?hx ?_ ?_); (case hx => exact rfl); (intro hc hF Q q0 q1 q2; conv => whnf); rotate_left; (intro hc hF); rotate_right) | (revert hF; (with_reducible first | refine seq_opN ?hx ?_ ?_ | refine seq_opN0 ?hx ?_ ?_); (case hx => exact rfl); (intro hc hF); rotate_left; (intro hc hF Q q0 q1 q2; conv => whnf); rotate_right)))
    | ((with_reducible refine seq_nil ?_); (first | ((with_reducible refine hR _ ?_); clear R hR) | ((with_reducible refine hL _ ?_); clear L hL)))
    | ((with_reducible first | refine int_step ?_); conv => whnf)
    | (with_reducible first | refine vc_skip ?_ | refine vc_ret ?_ | refine vc_region (fun R hR => ?_) | refine k_seq_ret ?_)
    | ((with_reducible refine vc_seqN [] ?hx ?_); (case hx => exact rfl))
    | ((refine row_all ?hn ?_); (case hn => first | exact rfl | (simp; done) | (simp; omega)); conv => whnf)
    | ((with_reducible refine le_step ?hn ?_); (case hn => first | exact rfl | assumption | omega); conv => whnf)
    | ((refine ⟨?hx, ?_⟩); (case hx => exact ⟨rfl, Nat.le_of_ble_eq_true rfl, rfl⟩); conv => whnf)
    | ((with_reducible refine ex_step ?_); conv => whnf)
    | ((with_reducible refine both_T ?hx ?_); (case hx => first | exact rfl | assumption | exact notT (by assumption)); conv => whnf)
    | ((with_reducible refine both_F ?hx ?_); (case hx => first | exact rfl | assumption | exact notF (by assumption)); conv => whnf)
    | (revert hF; (with_reducible refine ite_step ?_ ?_) <;> (intro hc hF; conv => whnf))
    | (show retD _ _ _ _ _ _; conv => whnf)
    | ((refine ⟨?hx, trivial⟩); (case hx => (cases hF; exact rfl)))
    | ((refine ⟨?hx, ?_⟩); (case hx => decide); conv => whnf)
    | with_reducible refine k_seq ?_
    | (have hF : (none : Option _) = some _ := hF; cases hF))
end
end Go.Vc
namespace Go.Vc
open Go.Proofs
set_option linter.unusedVariables false
set_option linter.unnecessarySimpa false
set_option linter.unusedSimpArgs false
section
variable {c : Ctx} {p nid : Nat} {a b : Code} {st : St} {K : Ex → St → Prop}
/- f83: slices.Concat[[]int,int] -/
def f83_c15 (newslice6' : List Int) : Option ((List Int)) :=
 some (newslice6')
def Lf83_c15 : Lp ((List Int)) (Nat) ((List Int)) := ⟨⟨[6], [90006], [(.slot 6, 90006, 3, 1)], []⟩, fun newslice6' => [.rs 90006 (List.length (newslice6'))], fun newslice6' => [.row 3 1 (List.map iN (newslice6'))], fun newslice6' => f83_c15 newslice6', fun _ m0 => [.rs 90006 m0], fun newslice6' _ => [.row 3 1 (List.map iN (newslice6'))], fun newslice6' => List.length (newslice6'), fun _ => rfl, fun _ => rfl⟩
theorem Ef83_c15 {newslice6'} : (Lf83_c15).E newslice6' = f83_c15 newslice6' := rfl
def f83_11b (r11 : (List Int) → Int → Option ((List Int))) (a0 : List (List Int)) (k0 : (List Int) → Option ((List Int))) (newslice6' : List Int) (v27 : Int) : Option ((List Int)) :=
 bif decide (v27 < (List.length a0 : Int)) then ((ix a0 v27).bind fun x1 =>
 (app 8 (newslice6') x1).bind fun x2 =>
 r11 x2 (W (v27 + (1 : Int))))
 else (k0 (newslice6'))
def f83_11 (a0 : List (List Int)) (k0 : (List Int) → Option ((List Int))) : Nat → (List Int) → Int → Option ((List Int))
  | 0, _, _ => none
  | n + 1, newslice6', v27 => f83_11b (f83_11 a0 k0 n) a0 k0 newslice6' v27
def Lf83_11 (a0 : List (List Int)) (k0 : (List Int) → Option ((List Int))) : Lp (Nat × (List Int) × Int) (Nat) ((List Int)) := ⟨⟨[6, 25, 26, 27], [90006], [(.slot 6, 90006, 3, 1)], []⟩, fun (_, newslice6', v27) => [.rs 90006 (List.length (newslice6')), .dat (sl_sl_iN a0), .dat (iN (List.length a0 : Int)), .dat (iN v27)], fun (_, newslice6', _) => [.row 3 1 (List.map iN (newslice6'))], fun (n, newslice6', v27) => f83_11 a0 k0 n newslice6' v27, fun (_, _, v27) m0 => [.rs 90006 m0, .dat (sl_sl_iN a0), .dat (iN (List.length a0 : Int)), .dat (iN v27)], fun (_, newslice6', _) _ => [.row 3 1 (List.map iN (newslice6'))], fun (_, newslice6', _) => List.length (newslice6'), fun _ => rfl, fun _ => rfl⟩
theorem Ef83_11 {a0 k0 n newslice6' v27} : (Lf83_11 a0 k0).E (n, newslice6', v27) = f83_11 a0 k0 n newslice6' v27 := rfl
def f83_c10 (a0 : List (List Int)) (N : Nat) (newslice6 : List Int) : Option ((List Int)) :=
 joinK f83_c15 fun k0 =>
 f83_11 a0 k0 N newslice6 (0 : Int)
def Lf83_c10 (a0 : List (List Int)) (N : Nat) : Lp ((List Int)) (Nat) ((List Int)) := ⟨⟨[0, 6], [90006], [(.slot 6, 90006, 3, 1)], []⟩, fun newslice6 => [.dat (sl_sl_iN a0), .rs 90006 (List.length newslice6)], fun newslice6 => [.row 3 1 (List.map iN newslice6)], fun newslice6 => f83_c10 a0 N newslice6, fun _ m0 => [.dat (sl_sl_iN a0), .rs 90006 m0], fun newslice6 _ => [.row 3 1 (List.map iN newslice6)], fun newslice6 => List.length newslice6, fun _ => rfl, fun _ => rfl⟩
theorem Ef83_c10 {a0 N newslice6} : (Lf83_c10 a0 N).E newslice6 = f83_c10 a0 N newslice6 := rfl
def f83_c9 (a0 : List (List Int)) (N : Nat) (size3 : Int) : Option ((List Int)) :=
 joinK (f83_c10 a0 N) fun k1 =>
 bif decide (size3 < (0 : Int)) then none
 else (bif decide ((0 : Int) < (W (size3 - (W ((0 : Int) - (0 : Int)))))) then ((mkA 8 (0 : Int) (W (size3 - (W ((0 : Int) - (0 : Int)))))).bind fun x3 =>
 (subR x3 0 (0 : Int)).bind fun x4 =>
 k1 x4)
 else (k1 []))
def Lf83_c9 (a0 : List (List Int)) (N : Nat) : Lp (Int) Unit ((List Int)) := lp0 ⟨[0, 3], [], [], []⟩ (fun size3 => [.dat (sl_sl_iN a0), .dat (iN size3)]) (fun _ => []) (fun size3 => f83_c9 a0 N size3)
theorem Ef83_c9 {a0 N size3} : (Lf83_c9 a0 N).E size3 = f83_c9 a0 N size3 := rfl
def f83_3b (r3 : Int → Int → Option ((List Int))) (a0 : List (List Int)) (k2 : Int → Option ((List Int))) (size3 : Int) (v11 : Int) : Option ((List Int)) :=
 bif decide (v11 < (List.length a0 : Int)) then ((ix a0 v11).bind fun x5 =>
 bif decide ((W (size3 + (List.length x5 : Int))) < (0 : Int)) then none
 else (r3 (W (size3 + (List.length x5 : Int))) (W (v11 + (1 : Int)))))
 else (k2 size3)
def f83_3 (a0 : List (List Int)) (k2 : Int → Option ((List Int))) : Nat → Int → Int → Option ((List Int))
  | 0, _, _ => none
  | n + 1, size3, v11 => f83_3b (f83_3 a0 k2 n) a0 k2 size3 v11
def Lf83_3 (a0 : List (List Int)) (k2 : Int → Option ((List Int))) : Lp (Nat × Int × Int) Unit ((List Int)) := lp0 ⟨[0, 3, 9, 10, 11], [], [], []⟩ (fun (_, size3, v11) => [.dat (sl_sl_iN a0), .dat (iN size3), .dat (sl_sl_iN a0), .dat (iN (List.length a0 : Int)), .dat (iN v11)]) (fun (_, _, _) => []) (fun (n, size3, v11) => f83_3 a0 k2 n size3 v11)
theorem Ef83_3 {a0 k2 n size3 v11} : (Lf83_3 a0 k2).E (n, size3, v11) = f83_3 a0 k2 n size3 v11 := rfl
def f83 (N : Nat) (a0 : List (List Int)) : Option ((List Int)) :=
 joinK (f83_c9 a0 N) fun k2 =>
 f83_3 a0 k2 N (0 : Int) (0 : Int)
def G83 (ds : List D) (d : D) : Prop := ∃ (N : Nat) (a0 : List (List Int)) (r : (List Int)), ds = [sl_sl_iN a0] ∧ f83 N a0 = some r ∧ d = sl_iN r
theorem G83.step {N : Nat} {a0 : List (List Int)} {ρ : Type} {A : (List Int) → Option ρ} {q : ρ} {ds : List D} {K : D → Prop} (hd : ds = [sl_sl_iN a0]) (h : ∀ r, A r = some q → K (sl_iN r)) (hF : (f83 N a0).bind A = some q) : ∃ d, G83 ds d ∧ K d := by
  obtain ⟨r, hr, hA⟩ := bind_some hF
  exact ⟨_, ⟨N, a0, r, hd, hr, rfl⟩, h r hA⟩
set_option maxRecDepth 20000 in
set_option maxHeartbeats 4000000 in
theorem P83 : PureOK Try.prog 83 G83 := by
  refine pure_of_vc (c := mkCtx tyTree [(94, false, inlPg (mkCtx tyTree []) Try.f94)]) rfl tyOK (ctx_eff (callable Try.func94 rfl rfl) (CallOK.inl rfl tyOK (ctx_nil) Try.func94 (by kernel_rfl)) (ctx_nil)) [[1]] 1 Try.func83 rfl rfl (by decide) (by kernel_rfl) ?_
  rintro ds d ⟨N, a0, r, rfl, hF, rfl⟩ hok
  clear hok
  refine ⟨rfl, ?_⟩
  show vc _ _ _ _ ⟨[(0, .dat (sl_sl_iN a0))], []⟩ _
  unfold f83 at hF
  repeat' (first
    | ((with_reducible first | refine q0 _ _ ?_ | refine q1 _ _ _ _ ?_ | refine q2 _ _ _ ?_); clear Q q0 q1 q2)
    | ((with_reducible first | refine seq_op ?hx (fun Q q0 q1 q2 => ?_) | refine seq_op0 ?hx (fun Q q0 q1 q2 => ?_)); (case hx => exact rfl); conv => whnf)
    | ((with_reducible refine cond_id ?_); (first | ((refine condKT rfl ?hy ?_); (case hy => first | assumption | exact notT (by assumption) | exact rfl)) | ((refine condKF rfl ?hy ?_); (case hy => first | assumption | exact notF (by assumption) | exact rfl)) | (revert hF; (with_reducible refine condF ?hx ?_ ?_); (case hx => exact rfl); all_goals (intro hc hF))))
    | ((with_reducible refine seq_nil ?_); (first | ((with_reducible refine hR _ ?_); clear R hR) | ((with_reducible refine hL _ ?_); clear L hL)))
    | ((with_reducible first | refine int_step ?_ | refine len_step ?_ | refine idx2 (by assumption) ?_ | refine idx3 (by assumption) ?_); conv => whnf)
    | (with_reducible first | refine vc_block ?_ | refine vc_skip ?_ | refine vc_ret ?_ | refine vc_exit ?_ | refine vc_region (fun R hR => ?_) | refine k_seq_ret ?_ | refine k_seq_exit ?_ | refine k_blk ?_ | refine k_blk_ret ?_ | refine k_blk_here ?_ | refine k_loop_ret ?_ | refine k_loop_exit ?_)
    | ((with_reducible refine vc_seqN [15, 10, 9] ?hx ?_); (case hx => exact rfl))
    | (revert hF; (refine Lp.cut0 Lf83_c15 f83_c15 15 rfl rfl ?_ ?_); (intro hF); rotate_left; (rintro newslice6' hF; dsimp only [Lf83_c15] at hF; unfold f83_c15 at hF); rotate_right)
    | exact Lp.head Ef83_c15 hF _ ⟨_, rfl, rfl, rfl, rfl⟩ (by first | exact rfl | ((try dsimp only [Lf83_c15]); first | assumption | omega | (simp only [List.length_set]; done)))
    | (revert hF; (refine Lp.loop Ef83_11 _ rfl ⟨_, rfl, rfl, rfl, rfl⟩ (by first | exact rfl | ((try dsimp only [Lf83_11]); first | assumption | omega | (simp only [List.length_set]; done))) (fun _ => rfl) ?_); rintro n ⟨newslice6', v27⟩ hF; dsimp only [Lf83_11, f83_11] at hF; unfold f83_11b at hF)
    | exact Lp.back Ef83_11 hF _ ⟨_, rfl, rfl, rfl, rfl⟩ (by first | exact rfl | ((try dsimp only [Lf83_11]); first | assumption | omega | (simp only [List.length_set]; done)))
    | (revert hF; (refine Lp.cut2 Lf83_c10 f83_c10 10 rfl rfl ?_ ?_); (intro hF); rotate_left; (rintro newslice6 hF; dsimp only [Lf83_c10] at hF; unfold f83_c10 at hF); rotate_right)
    | exact Lp.head Ef83_c10 hF _ ⟨_, rfl, rfl, rfl, rfl⟩ (by first | exact rfl | ((try dsimp only [Lf83_c10]); first | assumption | omega | (simp only [List.length_set]; done)))
    | (revert hF; (refine Lp.cut2 Lf83_c9 f83_c9 9 rfl rfl ?_ ?_); (intro hF); rotate_left; (rintro size3 hF; dsimp only [Lf83_c9] at hF; unfold f83_c9 at hF); rotate_right)
    | exact Lp.head Ef83_c9 hF () ⟨_, rfl, rfl, rfl, rfl⟩ rfl
    | (revert hF; (refine Lp.loop Ef83_3 () rfl ⟨_, rfl, rfl, rfl, rfl⟩ rfl (fun _ => rfl) ?_); rintro n ⟨size3, v11⟩ hF; dsimp only [Lf83_3, f83_3] at hF; unfold f83_3b at hF)
    | exact Lp.back Ef83_3 hF () ⟨_, rfl, rfl, rfl, rfl⟩ rfl
    | (revert hF; (refine mkS_row (d := iN) ?hz ?_); (case hz => exact rfl); intro x hF; conv => whnf)
    | (revert hF; (refine mkA_row (d := iN) ?hz ?_); (case hz => exact rfl); intro x hF; conv => whnf)
    | ((with_reducible first | refine k_blk_out ?hx ?_ | refine vc_condT ?hx ?_); (case hx => exact rfl))
    | (revert hF; (with_reducible refine idx1 ?hn ?_); (case hn => first | exact rfl | exact (List.length_map _) | assumption | omega | simp); intro x hx hF; conv => whnf)
    | ((with_reducible have hG := subR_fact hF); clear hF; (refine Or.inl (Or.inl ?_)); (conv => whnf); (refine subrow_step hG ?hn (fun q hF => ?_); (case hn => first | exact rfl | assumption | omega)); clear hG; conv => whnf)
    | ((with_reducible have hG := app_fact hF); clear hF; (first | ((refine app_row hG ?hn ?hs (fun q hF => ?_)); (case hn => first | exact rfl | assumption | omega); (case hs => exact rfl)) | ((refine app_nil (d := iN) hG ?hs (fun q hF => ?_)); (case hs => exact rfl)) | ((refine app_gen (d := iN) hG ?ho ?hn ?hs (fun q hF => ?_)); (case ho => exact rfl); (case hn => exact rfl); (case hs => exact rfl))); clear hG; conv => whnf)
    | ((refine row_all ?hn ?_); (case hn => first | exact rfl | (simp; done) | (simp; omega)); conv => whnf)
    | ((with_reducible refine le_step ?hn ?_); (case hn => first | exact rfl | assumption | omega); conv => whnf)
    | ((refine ⟨?hx, ?_⟩); (case hx => exact ⟨rfl, Nat.le_of_ble_eq_true rfl, rfl⟩); conv => whnf)
    | ((with_reducible refine ex_step ?_); conv => whnf)
    | ((with_reducible refine both_T ?hx ?_); (case hx => first | exact rfl | assumption | exact notT (by assumption)); conv => whnf)
    | ((with_reducible refine both_F ?hx ?_); (case hx => first | exact rfl | assumption | exact notF (by assumption)); conv => whnf)
    | (revert hF; (with_reducible refine ite_step ?_ ?_) <;> (intro hc hF; conv => whnf))
    | ((with_reducible refine vc_condF ?hx ?_); (case hx => exact rfl))
    | (show retD _ _ _ _ _ _; conv => whnf)
    | ((refine inl_step ?ha ?hb ?hc rfl ?_); (case ha => exact rfl); (case hb => omega); (case hc => exact Nat.le_of_ble_eq_true rfl))
    | (show Kinl _ _ _ _ _ _ _; conv => whnf)
    | ((with_reducible refine kinl_step ?ha ?hb ?_); (case ha => exact rfl); (case hb => exact rfl); conv => whnf)
    | ((refine ⟨?hx, trivial⟩); (case hx => (cases hF; exact rfl)))
    | ((refine ⟨?hx, ?_⟩); (case hx => decide); conv => whnf)
    | with_reducible refine k_seq ?_
    | (have hF : (none : Option _) = some _ := hF; cases hF))
end
end Go.Vc
namespace Go.Vc
open Go.Proofs
set_option linter.unusedVariables false
set_option linter.unnecessarySimpa false
set_option linter.unusedSimpArgs false
section
variable {c : Ctx} {p nid : Nat} {a b : Code} {st : St} {K : Ex → St → Prop}
/- f85: tusche/serial.again -/
def f85_c15 (twice3 : Bool) : Option (Bool) :=
 some (twice3)
def Lf85_c15 : Lp (Bool) Unit (Bool) := lp0 ⟨[3], [], [], []⟩ (fun twice3 => [.kb twice3]) (fun _ => []) (fun twice3 => f85_c15 twice3)
theorem Ef85_c15 {twice3} : (Lf85_c15).E twice3 = f85_c15 twice3 := rfl
def f85_c14 (a0 : List (List Int)) (v12 : Int) (r3 : Bool → Int → Option (Bool)) (twice3' : Bool) : Option (Bool) :=
 r3 (twice3') (W (v12 + (1 : Int)))
def Lf85_c14 (a0 : List (List Int)) (v12 : Int) (r3 : Bool → Int → Option (Bool)) : Lp (Bool) Unit (Bool) := lp0 ⟨[0, 3, 11, 12], [], [], []⟩ (fun twice3' => [.dat (sl_sl_iN a0), .kb (twice3'), .dat (iN (List.length a0 : Int)), .dat (iN v12)]) (fun _ => []) (fun twice3' => f85_c14 a0 v12 r3 twice3')
theorem Ef85_c14 {a0 v12 r3 twice3'} : (Lf85_c14 a0 v12 r3).E twice3' = f85_c14 a0 v12 r3 twice3' := rfl
def f85_7b (r7 : Bool → Int → (List Bool) → (List Bool) → Option (Bool)) (a0 : List (List Int)) (k0 : Bool → Option (Bool)) (v12 : Int) (k1 : Bool → Option (Bool)) (twice3' : Bool) (v17 : Int) (b500 : List Bool) (b501 : List Bool) : Option (Bool) :=
 bif decide (v17 < (List.length a0 : Int)) then ((ix a0 v12).bind fun x1 =>
 (ix x1 v17).bind fun x2 =>
 (ix a0 v17).bind fun x3 =>
 (ix x3 v12).bind fun x4 =>
 (chkI 10 x2).bind fun _ =>
 (ixN b500 (Int.toNat x2)).bind fun x5 =>
 bif x5 then (k0 true)
 else ((chkI 10 x4).bind fun _ =>
 (ixN b501 (Int.toNat x4)).bind fun x6 =>
 bif x6 then (k0 true)
 else ((chkI 10 x2).bind fun _ =>
 (setN b500 (Int.toNat x2) true).bind fun x7 =>
 (chkI 10 x4).bind fun _ =>
 (setN b501 (Int.toNat x4) true).bind fun x8 =>
 r7 (twice3') (W (v17 + (1 : Int))) x7 x8)))
 else (k1 (twice3'))
def f85_7 (a0 : List (List Int)) (k0 : Bool → Option (Bool)) (v12 : Int) (k1 : Bool → Option (Bool)) : Nat → Bool → Int → (List Bool) → (List Bool) → Option (Bool)
  | 0, _, _, _, _ => none
  | n + 1, twice3', v17, b500, b501 => f85_7b (f85_7 a0 k0 v12 k1 n) a0 k0 v12 k1 twice3' v17 b500 b501
def Lf85_7 (a0 : List (List Int)) (k0 : Bool → Option (Bool)) (v12 : Int) (k1 : Bool → Option (Bool)) : Lp (Nat × Bool × Int × (List Bool) × (List Bool)) Unit (Bool) := lp0 ⟨[0, 3, 4, 5, 6, 11, 12, 16, 17], [500, 501], [], []⟩ (fun (_, twice3', v17, _, _) => [.dat (sl_sl_iN a0), .kb (twice3'), .dat (iN v12), .ptr 500 0, .ptr 501 0, .dat (iN (List.length a0 : Int)), .dat (iN v12), .dat (iN (List.length a0 : Int)), .dat (iN v17)]) (fun (_, _, _, b500, b501) => [.arr (List.map bN b500), .arr (List.map bN b501)]) (fun (n, twice3', v17, b500, b501) => f85_7 a0 k0 v12 k1 n twice3' v17 b500 b501)
theorem Ef85_7 {a0 k0 v12 k1 n twice3' v17 b500 b501} : (Lf85_7 a0 k0 v12 k1).E (n, twice3', v17, b500, b501) = f85_7 a0 k0 v12 k1 n twice3' v17 b500 b501 := rfl
def f85_3b (r3 : Bool → Int → Option (Bool)) (a0 : List (List Int)) (N : Nat) (k0 : Bool → Option (Bool)) (twice3 : Bool) (v12 : Int) : Option (Bool) :=
 bif decide (v12 < (List.length a0 : Int)) then (joinK (f85_c14 a0 v12 r3) fun k1 =>
 f85_7 a0 k0 v12 k1 N twice3 (0 : Int) (List.replicate 10 false) (List.replicate 10 false))
 else (k0 twice3)
def f85_3 (a0 : List (List Int)) (N : Nat) (k0 : Bool → Option (Bool)) : Nat → Bool → Int → Option (Bool)
  | 0, _, _ => none
  | n + 1, twice3, v12 => f85_3b (f85_3 a0 N k0 n) a0 N k0 twice3 v12
def Lf85_3 (a0 : List (List Int)) (N : Nat) (k0 : Bool → Option (Bool)) : Lp (Nat × Bool × Int) Unit (Bool) := lp0 ⟨[0, 3, 11, 12], [], [], []⟩ (fun (_, twice3, v12) => [.dat (sl_sl_iN a0), .kb twice3, .dat (iN (List.length a0 : Int)), .dat (iN v12)]) (fun (_, _, _) => []) (fun (n, twice3, v12) => f85_3 a0 N k0 n twice3 v12)
theorem Ef85_3 {a0 N k0 n twice3 v12} : (Lf85_3 a0 N k0).E (n, twice3, v12) = f85_3 a0 N k0 n twice3 v12 := rfl
def f85 (N : Nat) (a0 : List (List Int)) : Option (Bool) :=
 joinK f85_c15 fun k0 =>
 f85_3 a0 N k0 N false (0 : Int)
def G85 (ds : List D) (d : D) : Prop := ∃ (N : Nat) (a0 : List (List Int)) (r : Bool), ds = [sl_sl_iN a0] ∧ f85 N a0 = some r ∧ d = bN r
theorem G85.lend {N : Nat} {a0 : List (List Int)} {ρ : Type} {A : Bool → Option ρ} {q : ρ} {ds : List D} {K : D → Prop} (hd : ds = [sl_sl_iN a0]) (h : ∀ r, A r = some q → K (bN r)) (hF : (f85 N a0).bind A = some q) : ∃ d, (G85 ds d ∧ d.flatB = true) ∧ K d := by
  obtain ⟨r, hr, hA⟩ := bind_some hF
  exact ⟨_, ⟨⟨N, a0, r, hd, hr, rfl⟩, rfl⟩, h r hA⟩
theorem G85.step {N : Nat} {a0 : List (List Int)} {ρ : Type} {A : Bool → Option ρ} {q : ρ} {ds : List D} {K : D → Prop} (hd : ds = [sl_sl_iN a0]) (h : ∀ r, A r = some q → K (bN r)) (hF : (f85 N a0).bind A = some q) : ∃ d, G85 ds d ∧ K d := by
  obtain ⟨r, hr, hA⟩ := bind_some hF
  exact ⟨_, ⟨N, a0, r, hd, hr, rfl⟩, h r hA⟩
set_option maxRecDepth 20000 in
set_option maxHeartbeats 4000000 in
theorem P85 : PureOK Try.prog 85 G85 := by
  refine pure_of_vc (c := mkCtx tyTree []) rfl tyOK (ctx_nil) [[0]] 1 Try.func85 rfl rfl (by decide) (by kernel_rfl) ?_
  rintro ds d ⟨N, a0, r, rfl, hF, rfl⟩ hok
  clear hok
  refine ⟨rfl, ?_⟩
  show vc _ _ _ _ ⟨[(0, .dat (sl_sl_iN a0))], []⟩ _
  unfold f85 at hF
  repeat' (first
    | ((with_reducible first | refine q0 _ _ ?_ | refine q1 _ _ _ _ ?_ | refine q2 _ _ _ ?_); clear Q q0 q1 q2)
    | ((with_reducible first | refine seq_op ?hx (fun Q q0 q1 q2 => ?_) | refine draw_op ?hx (fun Q q0 q1 q2 => ?_) | refine seq_op0 ?hx (fun Q q0 q1 q2 => ?_) | refine draw_op0 ?hx (fun Q q0 q1 q2 => ?_)); (case hx => exact rfl); conv => whnf)
    | ((with_reducible first | refine seq_off ?hx ?_ | refine seq_off0 ?hx ?_ | refine draw_off ?hx ?_ | refine draw_off0 ?hx ?_ | refine k_blk_out ?hx ?_ | refine vc_condT ?hx ?_); (case hx => exact rfl))
    | ((with_reducible refine seq_id ?_); (first | ((first | refine seq_opK rfl ?hy (fun Q q0 q1 q2 => ?_) | refine seq_opK0 rfl ?hy (fun Q q0 q1 q2 => ?_)); (case hy => first | assumption | exact notT (by assumption) | exact rfl); conv => whnf) | ((first | refine seq_offK rfl ?hy ?_ | refine seq_offK0 rfl ?hy ?_); (case hy => first | assumption | exact notF (by assumption) | exact rfl)) | (revert hF; (with_reducible first | refine seq_opF ?hx ?_ ?_ | refine seq_opF0 ?hx ?_ ?_); (case hx => exact rfl); (intro hc hF Q q0 q1 q2; conv => whnf); rotate_left; (intro hc hF); rotate_right) | (revert hF; (with_reducible first | refine seq_opN ?hx ?_ ?_ | refine seq_opN0 ?hx ?_ ?_); (case hx => exact rfl); (intro hc hF); rotate_left; (intro hc hF Q q0 q1 q2; conv => whnf); rotate_right)))
    | ((with_reducible refine cond_id ?_); (first | ((refine condKT rfl ?hy ?_); (case hy => first | assumption | exact notT (by assumption) | exact rfl)) | ((refine condKF rfl ?hy ?_); (case hy => first | assumption | exact notF (by assumption) | exact rfl)) | (revert hF; (with_reducible refine condF ?hx ?_ ?_); (case hx => exact rfl); all_goals (intro hc hF))))
    | ((with_reducible refine seq_nil ?_); (first | ((with_reducible refine hR _ ?_); clear R hR) | ((with_reducible refine hL _ ?_); clear L hL)))
    | ((with_reducible refine draw_nil ?_); (with_reducible refine hR _ _ ?hx ?_); (case hx => kernel_rfl); (first | clear R hR | clear hR))
    | ((with_reducible first | refine int_step ?_ | refine len_step ?_ | refine idx2 (by assumption) ?_ | refine idx3 (by assumption) ?_); conv => whnf)
    | (with_reducible first | refine vc_block ?_ | refine vc_skip ?_ | refine vc_scope ?_ | refine vc_label ?_ | refine vc_ret ?_ | refine vc_exit ?_ | refine vc_region (fun R hR => ?_) | refine k_seq_ret ?_ | refine k_seq_exit ?_ | refine k_blk ?_ | refine k_blk_ret ?_ | refine k_blk_here ?_ | refine k_loop_ret ?_ | refine k_loop_exit ?_)
    | ((with_reducible refine vc_seqN [15, 14] ?hx ?_); (case hx => exact rfl))
    | ((with_reducible refine vc_draw ?hx (fun R hR => ?_)); (case hx => exact rfl))
    | (revert hF; (refine Lp.cut0 Lf85_c15 f85_c15 15 rfl rfl ?_ ?_); (intro hF); rotate_left; (rintro twice3 hF; dsimp only [Lf85_c15] at hF; unfold f85_c15 at hF); rotate_right)
    | exact Lp.head Ef85_c15 hF () ⟨_, rfl, rfl, rfl, rfl⟩ rfl
    | (revert hF; (refine Lp.cut3 Lf85_c14 f85_c14 14 rfl rfl ?_ ?_); (intro hF); rotate_left; (rintro twice3' hF; dsimp only [Lf85_c14] at hF; unfold f85_c14 at hF); rotate_right)
    | exact Lp.head Ef85_c14 hF () ⟨_, rfl, rfl, rfl, rfl⟩ rfl
    | (revert hF; (refine Lp.loop Ef85_7 () rfl ⟨_, rfl, rfl, rfl, rfl⟩ rfl (fun _ => rfl) ?_); rintro n ⟨twice3', v17, b500, b501⟩ hF; dsimp only [Lf85_7, f85_7] at hF; unfold f85_7b at hF)
    | exact Lp.back Ef85_7 hF () ⟨_, rfl, rfl, rfl, rfl⟩ rfl
    | (revert hF; (refine Lp.loop Ef85_3 () rfl ⟨_, rfl, rfl, rfl, rfl⟩ rfl (fun _ => rfl) ?_); rintro n ⟨twice3, v12⟩ hF; dsimp only [Lf85_3, f85_3] at hF; unfold f85_3b at hF)
    | exact Lp.back Ef85_3 hF () ⟨_, rfl, rfl, rfl, rfl⟩ rfl
    | ((with_reducible refine zeroA_step (List.map bN (List.replicate 10 false)) ?hx ?_); (case hx => exact ⟨by kernel_rfl, by kernel_rfl⟩); conv => whnf)
    | ((with_reducible refine zeroD_step (List.map bN (List.replicate 10 false)) ?hx ?_); (case hx => (unfold zeroD; kernel_rfl)); conv => whnf)
    | ((with_reducible refine chkI_go hF ?_); (clear hF; intro hF; conv => whnf))
    | ((with_reducible have hG := ixN_fact hF); clear hF; (first | (refine ixN_one hG (by (try simp only [W]); omega) (fun x hF => ?_)) | (refine ixN_agg hG (fun _ => rfl) (by (try simp only [W]); omega) (fun x hF => ?_))); clear hG; conv => whnf)
    | ((with_reducible have hG := setN_fact hF); clear hF; (first | (refine setN_one hG (by (try simp only [W]); omega) rfl rfl (fun q hF => ?_)) | (refine setN_agg hG (fun _ => rfl) (by (try simp only [W]); omega) rfl rfl (fun q hF => ?_))); clear hG; conv => whnf)
    | (revert hF; (with_reducible refine idx1 ?hn ?_); (case hn => first | exact rfl | exact (List.length_map _) | assumption | omega | simp); intro x hx hF; conv => whnf)
    | ((refine row_all ?hn ?_); (case hn => first | exact rfl | (simp; done) | (simp; omega)); conv => whnf)
    | ((with_reducible refine le_step ?hn ?_); (case hn => first | exact rfl | assumption | omega); conv => whnf)
    | ((refine ⟨?hx, ?_⟩); (case hx => exact ⟨rfl, Nat.le_of_ble_eq_true rfl, rfl⟩); conv => whnf)
    | ((with_reducible refine ex_step ?_); conv => whnf)
    | ((with_reducible refine both_T ?hx ?_); (case hx => first | exact rfl | assumption | exact notT (by assumption)); conv => whnf)
    | ((with_reducible refine both_F ?hx ?_); (case hx => first | exact rfl | assumption | exact notF (by assumption)); conv => whnf)
    | (revert hF; (with_reducible refine ite_step ?_ ?_) <;> (intro hc hF; conv => whnf))
    | ((with_reducible refine vc_condF ?hx ?_); (case hx => exact rfl))
    | (show retD _ _ _ _ _ _; conv => whnf)
    | ((refine ⟨?hx, trivial⟩); (case hx => (cases hF; exact rfl)))
    | ((refine ⟨?hx, ?_⟩); (case hx => decide); conv => whnf)
    | with_reducible refine k_seq ?_
    | (have hF : (none : Option _) = some _ := hF; cases hF))
end
end Go.Vc
namespace Go.Vc
open Go.Proofs
set_option linter.unusedVariables false
set_option linter.unnecessarySimpa false
set_option linter.unusedSimpArgs false
section
variable {c : Ctx} {p nid : Nat} {a b : Code} {st : St} {K : Ex → St → Prop}
/- f49: tusche/serial.Check -/
def f49_i403_i404000102_c7 (a0 : List (List Int)) (N : Nat) : Option (Int) :=
 (f85 N a0).bind fun x3 =>
 bif x3 then (some ((6 : Int)))
 else (some ((0 : Int)))
def Lf49_i403_i404000102_c7 (a0 : List (List Int)) (N : Nat) : Lp (Unit) Unit (Int) := lp0 ⟨[], [102], [], []⟩ (fun _ => []) (fun _ => [.box [.dat (iN (List.length a0 : Int))]]) (fun _ => f49_i403_i404000102_c7 a0 N)
theorem Ef49_i403_i404000102_c7 {a0 N} : (Lf49_i403_i404000102_c7 a0 N).E () = f49_i403_i404000102_c7 a0 N := rfl
def f49_i403_i404000102_2b (r2 : Int → Option (Int)) (a0 : List (List Int)) (N : Nat) (x2 : List Int) (k0 : Option (Int)) (v8 : Int) : Option (Int) :=
 bif decide (v8 < (List.length x2 : Int)) then ((ix x2 v8).bind fun x4 =>
 (f64 N (0 : Int) x4 (W ((List.length a0 : Int) - (1 : Int)))).bind fun x5 =>
 bif !x5 then (bif decide ((0 : Int) ≤ v8) then (some ((4 : Int)))
 else ((f85 N a0).bind fun x6 =>
 bif x6 then (some ((6 : Int)))
 else (some ((0 : Int)))))
 else (r2 (W (v8 + (1 : Int)))))
 else k0
def f49_i403_i404000102_2 (a0 : List (List Int)) (N : Nat) (x2 : List Int) (k0 : Option (Int)) : Nat → Int → Option (Int)
  | 0, _ => none
  | n + 1, v8 => f49_i403_i404000102_2b (f49_i403_i404000102_2 a0 N x2 k0 n) a0 N x2 k0 v8
def Lf49_i403_i404000102_2 (a0 : List (List Int)) (N : Nat) (x2 : List Int) (k0 : Option (Int)) : Lp (Nat × Int) Unit (Int) := lp0 ⟨[0, 1, 7, 8], [102], [], []⟩ (fun (_, v8) => [.dat (sl_iN x2), .fn 84 [] [.ptr 102 0], .dat (iN (List.length x2 : Int)), .dat (iN v8)]) (fun (_, _) => [.box [.dat (iN (List.length a0 : Int))]]) (fun (n, v8) => f49_i403_i404000102_2 a0 N x2 k0 n v8)
theorem Ef49_i403_i404000102_2 {a0 N x2 k0 n v8} : (Lf49_i403_i404000102_2 a0 N x2 k0).E (n, v8) = f49_i403_i404000102_2 a0 N x2 k0 n v8 := rfl
def f49_i206_i207000102_c7 (a0 : List (List Int)) (N : Nat) : Option (Int) :=
 (f83 N a0).bind fun x2 =>
 joinK (f49_i403_i404000102_c7 a0 N) fun k0 =>
 f49_i403_i404000102_2 a0 N x2 k0 N (0 : Int)
def Lf49_i206_i207000102_c7 (a0 : List (List Int)) (N : Nat) : Lp (Unit) Unit (Int) := lp0 ⟨[], [102], [], []⟩ (fun _ => []) (fun _ => [.box [.dat (iN (List.length a0 : Int))]]) (fun _ => f49_i206_i207000102_c7 a0 N)
theorem Ef49_i206_i207000102_c7 {a0 N} : (Lf49_i206_i207000102_c7 a0 N).E () = f49_i206_i207000102_c7 a0 N := rfl
def f49_i403_i404000102_c7_1 (a0 : List (List Int)) (N : Nat) : Option (Int) :=
 (f85 N a0).bind fun x9 =>
 bif x9 then (some ((6 : Int)))
 else (some ((0 : Int)))
def Lf49_i403_i404000102_c7_1 (a0 : List (List Int)) (N : Nat) : Lp (Unit) Unit (Int) := lp0 ⟨[], [102], [], []⟩ (fun _ => []) (fun _ => [.box [.dat (iN (List.length a0 : Int))]]) (fun _ => f49_i403_i404000102_c7_1 a0 N)
theorem Ef49_i403_i404000102_c7_1 {a0 N} : (Lf49_i403_i404000102_c7_1 a0 N).E () = f49_i403_i404000102_c7_1 a0 N := rfl
def f49_i403_i404000102_2_1b (r2x : Int → Option (Int)) (a0 : List (List Int)) (N : Nat) (x8 : List Int) (k2 : Option (Int)) (v8' : Int) : Option (Int) :=
 bif decide ((v8') < (List.length x8 : Int)) then ((ix x8 (v8')).bind fun x10 =>
 (f64 N (0 : Int) x10 (W ((List.length a0 : Int) - (1 : Int)))).bind fun x11 =>
 bif !x11 then (bif decide ((0 : Int) ≤ (v8')) then (some ((4 : Int)))
 else ((f85 N a0).bind fun x12 =>
 bif x12 then (some ((6 : Int)))
 else (some ((0 : Int)))))
 else (r2x (W ((v8') + (1 : Int)))))
 else k2
def f49_i403_i404000102_2_1 (a0 : List (List Int)) (N : Nat) (x8 : List Int) (k2 : Option (Int)) : Nat → Int → Option (Int)
  | 0, _ => none
  | n + 1, v8' => f49_i403_i404000102_2_1b (f49_i403_i404000102_2_1 a0 N x8 k2 n) a0 N x8 k2 v8'
def Lf49_i403_i404000102_2_1 (a0 : List (List Int)) (N : Nat) (x8 : List Int) (k2 : Option (Int)) : Lp (Nat × Int) Unit (Int) := lp0 ⟨[0, 1, 7, 8], [102], [], []⟩ (fun (_, v8') => [.dat (sl_iN x8), .fn 84 [] [.ptr 102 0], .dat (iN (List.length x8 : Int)), .dat (iN (v8'))]) (fun (_, _) => [.box [.dat (iN (List.length a0 : Int))]]) (fun (n, v8') => f49_i403_i404000102_2_1 a0 N x8 k2 n v8')
theorem Ef49_i403_i404000102_2_1 {a0 N x8 k2 n v8'} : (Lf49_i403_i404000102_2_1 a0 N x8 k2).E (n, v8') = f49_i403_i404000102_2_1 a0 N x8 k2 n v8' := rfl
def f49_i206_i207000102_2b (r2 : Int → Option (Int)) (a0 : List (List Int)) (N : Nat) (k1 : Option (Int)) (v8 : Int) : Option (Int) :=
 bif decide (v8 < (List.length a0 : Int)) then ((ix a0 v8).bind fun x7 =>
 bif decide (¬ (List.length x7 : Int) = (List.length a0 : Int)) then (bif decide ((0 : Int) ≤ v8) then (some ((3 : Int)))
 else ((f83 N a0).bind fun x8 =>
 joinK (f49_i403_i404000102_c7_1 a0 N) fun k2 =>
 f49_i403_i404000102_2_1 a0 N x8 k2 N (0 : Int)))
 else (r2 (W (v8 + (1 : Int)))))
 else k1
def f49_i206_i207000102_2 (a0 : List (List Int)) (N : Nat) (k1 : Option (Int)) : Nat → Int → Option (Int)
  | 0, _ => none
  | n + 1, v8 => f49_i206_i207000102_2b (f49_i206_i207000102_2 a0 N k1 n) a0 N k1 v8
def Lf49_i206_i207000102_2 (a0 : List (List Int)) (N : Nat) (k1 : Option (Int)) : Lp (Nat × Int) Unit (Int) := lp0 ⟨[0, 1, 7, 8], [102], [], []⟩ (fun (_, v8) => [.dat (sl_sl_iN a0), .fn 81 [] [.ptr 102 0], .dat (iN (List.length a0 : Int)), .dat (iN v8)]) (fun (_, _) => [.box [.dat (iN (List.length a0 : Int))]]) (fun (n, v8) => f49_i206_i207000102_2 a0 N k1 n v8)
theorem Ef49_i206_i207000102_2 {a0 N k1 n v8} : (Lf49_i206_i207000102_2 a0 N k1).E (n, v8) = f49_i206_i207000102_2 a0 N k1 n v8 := rfl
def f49 (N : Nat) (a0 : List (List Int)) : Option (Int) :=
 (f64 N (2 : Int) (List.length a0 : Int) (10 : Int)).bind fun x1 =>
 bif !x1 then (some ((3 : Int)))
 else (joinK (f49_i206_i207000102_c7 a0 N) fun k1 =>
 f49_i206_i207000102_2 a0 N k1 N (0 : Int))
def G49 (ds : List D) (d : D) : Prop := ∃ (N : Nat) (a0 : List (List Int)) (r : Int), ds = [sl_sl_iN a0] ∧ f49 N a0 = some r ∧ d = iN r
theorem G49.lend {N : Nat} {a0 : List (List Int)} {ρ : Type} {A : Int → Option ρ} {q : ρ} {ds : List D} {K : D → Prop} (hd : ds = [sl_sl_iN a0]) (h : ∀ r, A r = some q → K (iN r)) (hF : (f49 N a0).bind A = some q) : ∃ d, (G49 ds d ∧ d.flatB = true) ∧ K d := by
  obtain ⟨r, hr, hA⟩ := bind_some hF
  exact ⟨_, ⟨⟨N, a0, r, hd, hr, rfl⟩, rfl⟩, h r hA⟩
theorem G49.step {N : Nat} {a0 : List (List Int)} {ρ : Type} {A : Int → Option ρ} {q : ρ} {ds : List D} {K : D → Prop} (hd : ds = [sl_sl_iN a0]) (h : ∀ r, A r = some q → K (iN r)) (hF : (f49 N a0).bind A = some q) : ∃ d, G49 ds d ∧ K d := by
  obtain ⟨r, hr, hA⟩ := bind_some hF
  exact ⟨_, ⟨N, a0, r, hd, hr, rfl⟩, h r hA⟩
set_option maxRecDepth 20000 in
set_option maxHeartbeats 4000000 in
theorem P49 : PureOK Try.prog 49 G49 := by
  refine pure_of_vc (c := mkCtx tyTree [(82, false, inlPg (mkCtx tyTree [(88, false, inlPg (mkCtx tyTree [(84, false, inlPg (mkCtx tyTree [(64, true, lendPg [[0], [0], [0]] G64)]) Try.f84)]) Try.f88)]) Try.f82), (80, false, inlPg (mkCtx tyTree [(93, false, inlPg (mkCtx tyTree [(81, false, inlPg (mkCtx tyTree []) Try.f81)]) Try.f93)]) Try.f80), (85, true, lendPg [[1]] G85), (83, true, purePg [[1]] G83), (64, true, lendPg [[0], [0], [0]] G64)]) rfl tyOK (ctx_eff (callable Try.func82 rfl rfl) (CallOK.inl rfl tyOK (ctx_eff (callable Try.func88 rfl rfl) (CallOK.inl rfl tyOK (ctx_eff (callable Try.func84 rfl rfl) (CallOK.inl rfl tyOK (ctx_lend (callable Try.func64 rfl rfl) P64 (ctx_nil)) Try.func84 (by kernel_rfl)) (ctx_nil)) Try.func88 (by kernel_rfl)) (ctx_nil)) Try.func82 (by kernel_rfl)) (ctx_eff (callable Try.func80 rfl rfl) (CallOK.inl rfl tyOK (ctx_eff (callable Try.func93 rfl rfl) (CallOK.inl rfl tyOK (ctx_eff (callable Try.func81 rfl rfl) (CallOK.inl rfl tyOK (ctx_nil) Try.func81 (by kernel_rfl)) (ctx_nil)) Try.func93 (by kernel_rfl)) (ctx_nil)) Try.func80 (by kernel_rfl)) (ctx_lend (callable Try.func85 rfl rfl) P85 (ctx_cons (callable Try.func83 rfl rfl) P83 (ctx_lend (callable Try.func64 rfl rfl) P64 (ctx_nil)))))) [[0]] 1 Try.func49 rfl rfl (by decide) (by kernel_rfl) ?_
  rintro ds d ⟨N, a0, r, rfl, hF, rfl⟩ hok
  clear hok
  refine ⟨rfl, ?_⟩
  show vc _ _ _ _ ⟨[(0, .dat (sl_sl_iN a0))], []⟩ _
  unfold f49 at hF
  repeat' (first
    | ((with_reducible first | refine q0 _ _ ?_ | refine q1 _ _ _ _ ?_ | refine q2 _ _ _ ?_); clear Q q0 q1 q2)
    | ((with_reducible first | refine seq_op ?hx (fun Q q0 q1 q2 => ?_) | refine seq_op0 ?hx (fun Q q0 q1 q2 => ?_)); (case hx => exact rfl); conv => whnf)
    | ((with_reducible first | refine seq_off ?hx ?_ | refine seq_off0 ?hx ?_ | refine k_blk_out ?hx ?_ | refine vc_condT ?hx ?_); (case hx => exact rfl))
    | ((with_reducible refine seq_id ?_); (first | ((first | refine seq_opK rfl ?hy (fun Q q0 q1 q2 => ?_) | refine seq_opK0 rfl ?hy (fun Q q0 q1 q2 => ?_)); (case hy => first | assumption | exact notT (by assumption) | exact rfl); conv => whnf) | ((first | refine seq_offK rfl ?hy ?_ | refine seq_offK0 rfl ?hy ?_); (case hy => first | assumption | exact notF (by assumption) | exact rfl)) | (revert hF; (with_reducible first | refine seq_opF ?hx ?_ ?_ | refine seq_opF0 ?hx ?_ ?_); (case hx => exact rfl); (intro hc hF Q q0 q1 q2; conv => whnf); rotate_left; (intro hc hF); rotate_right) | (revert hF; (with_reducible first | refine seq_opN ?hx ?_ ?_ | refine seq_opN0 ?hx ?_ ?_); (case hx => exact rfl); (intro hc hF); rotate_left; (intro hc hF Q q0 q1 q2; conv => whnf); rotate_right)))
    | ((with_reducible refine cond_id ?_); (first | ((refine condKT rfl ?hy ?_); (case hy => first | assumption | exact notT (by assumption) | exact rfl)) | ((refine condKF rfl ?hy ?_); (case hy => first | assumption | exact notF (by assumption) | exact rfl)) | (revert hF; (with_reducible refine condF ?hx ?_ ?_); (case hx => exact rfl); all_goals (intro hc hF))))
    | ((with_reducible refine seq_nil ?_); (first | ((with_reducible refine hR _ ?_); clear R hR) | ((with_reducible refine hL _ ?_); clear L hL)))
    | ((with_reducible first | refine int_step ?_ | refine len_step ?_ | refine idx2 (by assumption) ?_ | refine idx3 (by assumption) ?_); conv => whnf)
    | (with_reducible first | refine vc_block ?_ | refine vc_skip ?_ | refine vc_ret ?_ | refine vc_exit ?_ | refine vc_region (fun R hR => ?_) | refine k_seq_ret ?_ | refine k_seq_exit ?_ | refine k_blk ?_ | refine k_blk_ret ?_ | refine k_blk_here ?_ | refine k_loop_ret ?_ | refine k_loop_exit ?_)
    | ((with_reducible refine vc_seqN [404000103000000007, 207000103000000007, 404000103000000007] ?hx ?_); (case hx => exact rfl))
    | (revert hF; (refine Lp.cut2 Lf49_i403_i404000102_c7 f49_i403_i404000102_c7 404000103000000007 rfl rfl ?_ ?_); (intro hF); rotate_left; (rintro _ hF; dsimp only [Lf49_i403_i404000102_c7] at hF; unfold f49_i403_i404000102_c7 at hF); rotate_right)
    | exact Lp.head Ef49_i403_i404000102_c7 hF () ⟨_, rfl, rfl, rfl, rfl⟩ rfl
    | (revert hF; (refine Lp.loop Ef49_i403_i404000102_2 () rfl ⟨_, rfl, rfl, rfl, rfl⟩ rfl (fun _ => rfl) ?_); rintro n v8 hF; dsimp only [Lf49_i403_i404000102_2, f49_i403_i404000102_2] at hF; unfold f49_i403_i404000102_2b at hF)
    | exact Lp.back Ef49_i403_i404000102_2 hF () ⟨_, rfl, rfl, rfl, rfl⟩ rfl
    | (revert hF; (refine Lp.cut2 Lf49_i206_i207000102_c7 f49_i206_i207000102_c7 207000103000000007 rfl rfl ?_ ?_); (intro hF); rotate_left; (rintro _ hF; dsimp only [Lf49_i206_i207000102_c7] at hF; unfold f49_i206_i207000102_c7 at hF); rotate_right)
    | exact Lp.head Ef49_i206_i207000102_c7 hF () ⟨_, rfl, rfl, rfl, rfl⟩ rfl
    | (revert hF; (refine Lp.cut2 Lf49_i403_i404000102_c7_1 f49_i403_i404000102_c7_1 404000103000000007 rfl rfl ?_ ?_); (intro hF); rotate_left; (rintro _ hF; dsimp only [Lf49_i403_i404000102_c7_1] at hF; unfold f49_i403_i404000102_c7_1 at hF); rotate_right)
    | exact Lp.head Ef49_i403_i404000102_c7_1 hF () ⟨_, rfl, rfl, rfl, rfl⟩ rfl
    | (revert hF; (refine Lp.loop Ef49_i403_i404000102_2_1 () rfl ⟨_, rfl, rfl, rfl, rfl⟩ rfl (fun _ => rfl) ?_); rintro n v8' hF; dsimp only [Lf49_i403_i404000102_2_1, f49_i403_i404000102_2_1] at hF; unfold f49_i403_i404000102_2_1b at hF)
    | exact Lp.back Ef49_i403_i404000102_2_1 hF () ⟨_, rfl, rfl, rfl, rfl⟩ rfl
    | (revert hF; (refine Lp.loop Ef49_i206_i207000102_2 () rfl ⟨_, rfl, rfl, rfl, rfl⟩ rfl (fun _ => rfl) ?_); rintro n v8 hF; dsimp only [Lf49_i206_i207000102_2, f49_i206_i207000102_2] at hF; unfold f49_i206_i207000102_2b at hF)
    | exact Lp.back Ef49_i206_i207000102_2 hF () ⟨_, rfl, rfl, rfl, rfl⟩ rfl
    | (revert hF; (with_reducible refine G64.lend ?hx ?_); (case hx => exact rfl); intro v hF; conv => whnf)
    | (revert hF; (with_reducible refine G83.step ?hx ?_); (case hx => exact rfl); intro v hF; conv => whnf)
    | (revert hF; (with_reducible refine G85.lend ?hx ?_); (case hx => exact rfl); intro v hF; conv => whnf)
    | (revert hF; (with_reducible refine idx1 ?hn ?_); (case hn => first | exact rfl | exact (List.length_map _) | assumption | omega | simp); intro x hx hF; conv => whnf)
    | ((refine row_all ?hn ?_); (case hn => first | exact rfl | (simp; done) | (simp; omega)); conv => whnf)
    | ((with_reducible refine le_step ?hn ?_); (case hn => first | exact rfl | assumption | omega); conv => whnf)
    | ((refine ⟨?hx, ?_⟩); (case hx => exact ⟨rfl, Nat.le_of_ble_eq_true rfl, rfl⟩); conv => whnf)
    | ((with_reducible refine ex_step ?_); conv => whnf)
    | ((with_reducible refine both_T ?hx ?_); (case hx => first | exact rfl | assumption | exact notT (by assumption)); conv => whnf)
    | ((with_reducible refine both_F ?hx ?_); (case hx => first | exact rfl | assumption | exact notF (by assumption)); conv => whnf)
    | (revert hF; (with_reducible refine ite_step ?_ ?_) <;> (intro hc hF; conv => whnf))
    | ((with_reducible refine vc_condF ?hx ?_); (case hx => exact rfl))
    | (show retD _ _ _ _ _ _; conv => whnf)
    | ((refine inl_step ?ha ?hb ?hc rfl ?_); (case ha => exact rfl); (case hb => omega); (case hc => exact Nat.le_of_ble_eq_true rfl))
    | (show Kinl _ _ _ _ _ _ _; conv => whnf)
    | ((with_reducible refine kinl_step ?ha ?hb ?_); (case ha => exact rfl); (case hb => exact rfl); conv => whnf)
    | ((refine ⟨?hx, trivial⟩); (case hx => (cases hF; exact rfl)))
    | ((refine ⟨?hx, ?_⟩); (case hx => decide); conv => whnf)
    | with_reducible refine k_seq ?_
    | (have hF : (none : Option _) = some _ := hF; cases hF))
end
end Go.Vc
namespace Go.Vc
open Go.Proofs
set_option linter.unusedVariables false
set_option linter.unnecessarySimpa false
set_option linter.unusedSimpArgs false
section
variable {c : Ctx} {p nid : Nat} {a b : Code} {st : St} {K : Ex → St → Prop}
/- f58: tusche/serial.digits -/
def f58_i602_i603000102_c7 (a0 : List (List Int)) : Option (Int) :=
 some ((0 : Int))
def Lf58_i602_i603000102_c7 (a0 : List (List Int)) : Lp (Unit) Unit (Int) := lp0 ⟨[], [0], [], []⟩ (fun _ => []) (fun _ => [.box [.dat (sl_sl_iN a0)]]) (fun _ => f58_i602_i603000102_c7 a0)
theorem Ef58_i602_i603000102_c7 {a0} : (Lf58_i602_i603000102_c7 a0).E () = f58_i602_i603000102_c7 a0 := rfl
def f58_i602_i603000102_2b (r2 : Int → Option (Int)) (a0 : List (List Int)) (a1 : List Int) (N : Nat) (k0 : Option (Int)) (v8 : Int) : Option (Int) :=
 bif decide (v8 < (List.length a1 : Int)) then ((ix a1 v8).bind fun x2 =>
 (f64 N (0 : Int) x2 (W ((List.length a0 : Int) - (1 : Int)))).bind fun x3 =>
 bif !x3 then (bif decide ((0 : Int) ≤ v8) then (some ((4 : Int)))
 else (some ((0 : Int))))
 else (r2 (W (v8 + (1 : Int)))))
 else k0
def f58_i602_i603000102_2 (a0 : List (List Int)) (a1 : List Int) (N : Nat) (k0 : Option (Int)) : Nat → Int → Option (Int)
  | 0, _ => none
  | n + 1, v8 => f58_i602_i603000102_2b (f58_i602_i603000102_2 a0 a1 N k0 n) a0 a1 N k0 v8
def Lf58_i602_i603000102_2 (a0 : List (List Int)) (a1 : List Int) (N : Nat) (k0 : Option (Int)) : Lp (Nat × Int) Unit (Int) := lp0 ⟨[0, 1, 7, 8], [0], [], []⟩ (fun (_, v8) => [.dat (sl_iN a1), .fn 86 [] [.ptr 0 0], .dat (iN (List.length a1 : Int)), .dat (iN v8)]) (fun (_, _) => [.box [.dat (sl_sl_iN a0)]]) (fun (n, v8) => f58_i602_i603000102_2 a0 a1 N k0 n v8)
theorem Ef58_i602_i603000102_2 {a0 a1 N k0 n v8} : (Lf58_i602_i603000102_2 a0 a1 N k0).E (n, v8) = f58_i602_i603000102_2 a0 a1 N k0 n v8 := rfl
def f58 (N : Nat) (a0 : List (List Int)) (a1 : List Int) : Option (Int) :=
 (f49 N a0).bind fun x1 =>
 bif decide (¬ x1 = (0 : Int)) then (some (x1))
 else (bif decide ((12 : Int) < (List.length a1 : Int)) then (some ((2 : Int)))
 else (joinK (f58_i602_i603000102_c7 a0) fun k0 =>
 f58_i602_i603000102_2 a0 a1 N k0 N (0 : Int)))
def G58 (ds : List D) (d : D) : Prop := ∃ (N : Nat) (a0 : List (List Int)) (a1 : List Int) (r : Int), ds = [sl_sl_iN a0, sl_iN a1] ∧ f58 N a0 a1 = some r ∧ d = iN r
theorem G58.lend {N : Nat} {a0 : List (List Int)} {a1 : List Int} {ρ : Type} {A : Int → Option ρ} {q : ρ} {ds : List D} {K : D → Prop} (hd : ds = [sl_sl_iN a0, sl_iN a1]) (h : ∀ r, A r = some q → K (iN r)) (hF : (f58 N a0 a1).bind A = some q) : ∃ d, (G58 ds d ∧ d.flatB = true) ∧ K d := by
  obtain ⟨r, hr, hA⟩ := bind_some hF
  exact ⟨_, ⟨⟨N, a0, a1, r, hd, hr, rfl⟩, rfl⟩, h r hA⟩
theorem G58.step {N : Nat} {a0 : List (List Int)} {a1 : List Int} {ρ : Type} {A : Int → Option ρ} {q : ρ} {ds : List D} {K : D → Prop} (hd : ds = [sl_sl_iN a0, sl_iN a1]) (h : ∀ r, A r = some q → K (iN r)) (hF : (f58 N a0 a1).bind A = some q) : ∃ d, G58 ds d ∧ K d := by
  obtain ⟨r, hr, hA⟩ := bind_some hF
  exact ⟨_, ⟨N, a0, a1, r, hd, hr, rfl⟩, h r hA⟩
set_option maxRecDepth 20000 in
set_option maxHeartbeats 4000000 in
theorem P58 : PureOK Try.prog 58 G58 := by
  refine pure_of_vc (c := mkCtx tyTree [(82, false, inlPg (mkCtx tyTree [(88, false, inlPg (mkCtx tyTree [(86, false, inlPg (mkCtx tyTree [(64, true, lendPg [[0], [0], [0]] G64)]) Try.f86)]) Try.f88)]) Try.f82), (49, true, lendPg [[1]] G49)]) rfl tyOK (ctx_eff (callable Try.func82 rfl rfl) (CallOK.inl rfl tyOK (ctx_eff (callable Try.func88 rfl rfl) (CallOK.inl rfl tyOK (ctx_eff (callable Try.func86 rfl rfl) (CallOK.inl rfl tyOK (ctx_lend (callable Try.func64 rfl rfl) P64 (ctx_nil)) Try.func86 (by kernel_rfl)) (ctx_nil)) Try.func88 (by kernel_rfl)) (ctx_nil)) Try.func82 (by kernel_rfl)) (ctx_lend (callable Try.func49 rfl rfl) P49 (ctx_nil))) [[0]] 2 Try.func58 rfl rfl (by decide) (by kernel_rfl) ?_
  rintro ds d ⟨N, a0, a1, r, rfl, hF, rfl⟩ hok
  clear hok
  refine ⟨rfl, ?_⟩
  show vc _ _ _ _ ⟨[(0, .dat (sl_sl_iN a0)), (1, .dat (sl_iN a1))], []⟩ _
  unfold f58 at hF
  repeat' (first
    | ((with_reducible first | refine q0 _ _ ?_ | refine q1 _ _ _ _ ?_ | refine q2 _ _ _ ?_); clear Q q0 q1 q2)
    | ((with_reducible first | refine seq_op ?hx (fun Q q0 q1 q2 => ?_)); (case hx => exact rfl); conv => whnf)
    | ((with_reducible refine cond_id ?_); (first | ((refine condKT rfl ?hy ?_); (case hy => first | assumption | exact notT (by assumption) | exact rfl)) | ((refine condKF rfl ?hy ?_); (case hy => first | assumption | exact notF (by assumption) | exact rfl)) | (revert hF; (with_reducible refine condF ?hx ?_ ?_); (case hx => exact rfl); all_goals (intro hc hF))))
    | ((with_reducible refine seq_nil ?_); (first | ((with_reducible refine hR _ ?_); clear R hR) | ((with_reducible refine hL _ ?_); clear L hL)))
    | ((with_reducible first | refine int_step ?_ | refine len_step ?_ | refine idx2 (by assumption) ?_ | refine idx3 (by assumption) ?_); conv => whnf)
    | (with_reducible first | refine vc_block ?_ | refine vc_skip ?_ | refine vc_ret ?_ | refine vc_exit ?_ | refine vc_region (fun R hR => ?_) | refine k_seq_ret ?_ | refine k_seq_exit ?_ | refine k_blk ?_ | refine k_blk_ret ?_ | refine k_blk_here ?_ | refine k_loop_ret ?_ | refine k_loop_exit ?_)
    | ((with_reducible refine vc_seqN [603000103000000007] ?hx ?_); (case hx => exact rfl))
    | (revert hF; (refine Lp.cut1 Lf58_i602_i603000102_c7 f58_i602_i603000102_c7 603000103000000007 rfl rfl ?_ ?_); (intro hF); rotate_left; (rintro _ hF; dsimp only [Lf58_i602_i603000102_c7] at hF; unfold f58_i602_i603000102_c7 at hF); rotate_right)
    | exact Lp.head Ef58_i602_i603000102_c7 hF () ⟨_, rfl, rfl, rfl, rfl⟩ rfl
    | (revert hF; (refine Lp.loop Ef58_i602_i603000102_2 () rfl ⟨_, rfl, rfl, rfl, rfl⟩ rfl (fun _ => rfl) ?_); rintro n v8 hF; dsimp only [Lf58_i602_i603000102_2, f58_i602_i603000102_2] at hF; unfold f58_i602_i603000102_2b at hF)
    | exact Lp.back Ef58_i602_i603000102_2 hF () ⟨_, rfl, rfl, rfl, rfl⟩ rfl
    | (revert hF; (with_reducible refine G49.lend ?hx ?_); (case hx => exact rfl); intro v hF; conv => whnf)
    | (revert hF; (with_reducible refine G64.lend ?hx ?_); (case hx => exact rfl); intro v hF; conv => whnf)
    | ((with_reducible first | refine k_blk_out ?hx ?_ | refine vc_condT ?hx ?_); (case hx => exact rfl))
    | (revert hF; (with_reducible refine idx1 ?hn ?_); (case hn => first | exact rfl | exact (List.length_map _) | assumption | omega | simp); intro x hx hF; conv => whnf)
    | ((refine row_all ?hn ?_); (case hn => first | exact rfl | (simp; done) | (simp; omega)); conv => whnf)
    | ((with_reducible refine le_step ?hn ?_); (case hn => first | exact rfl | assumption | omega); conv => whnf)
    | ((refine ⟨?hx, ?_⟩); (case hx => exact ⟨rfl, Nat.le_of_ble_eq_true rfl, rfl⟩); conv => whnf)
    | ((with_reducible refine ex_step ?_); conv => whnf)
    | ((with_reducible refine both_T ?hx ?_); (case hx => first | exact rfl | assumption | exact notT (by assumption)); conv => whnf)
    | ((with_reducible refine both_F ?hx ?_); (case hx => first | exact rfl | assumption | exact notF (by assumption)); conv => whnf)
    | (revert hF; (with_reducible refine ite_step ?_ ?_) <;> (intro hc hF; conv => whnf))
    | ((with_reducible refine vc_condF ?hx ?_); (case hx => exact rfl))
    | (show retD _ _ _ _ _ _; conv => whnf)
    | ((refine inl_step ?ha ?hb ?hc rfl ?_); (case ha => exact rfl); (case hb => omega); (case hc => exact Nat.le_of_ble_eq_true rfl))
    | (show Kinl _ _ _ _ _ _ _; conv => whnf)
    | ((with_reducible refine kinl_step ?ha ?hb ?_); (case ha => exact rfl); (case hb => exact rfl); conv => whnf)
    | ((refine ⟨?hx, trivial⟩); (case hx => (cases hF; exact rfl)))
    | ((refine ⟨?hx, ?_⟩); (case hx => decide); conv => whnf)
    | with_reducible refine k_seq ?_
    | (have hF : (none : Option _) = some _ := hF; cases hF))
end
end Go.Vc
namespace Go.Vc
open Go.Proofs
set_option linter.unusedVariables false
set_option linter.unnecessarySimpa false
set_option linter.unusedSimpArgs false
section
variable {c : Ctx} {p nid : Nat} {a b : Code} {st : St} {K : Ex → St → Prop}
/- f59: tusche/serial.after -/
def f59_i103_c6 (a0 : List (List Int)) (start0 : Int) : Option (Int) :=
 some (start0)
def Lf59_i103_c6 (a0 : List (List Int)) : Lp (Int) Unit (Int) := lp0 ⟨[0], [0], [], []⟩ (fun start0 => [.dat (iN start0)]) (fun _ => [.box [.dat (sl_sl_iN a0)]]) (fun start0 => f59_i103_c6 a0 start0)
theorem Ef59_i103_c6 {a0 start0} : (Lf59_i103_c6 a0).E start0 = f59_i103_c6 a0 start0 := rfl
def f59_i103_2b (r2 : Int → Int → Option (Int)) (a0 : List (List Int)) (a2 : List Int) (k0 : Int → Option (Int)) (start0 : Int) (v11 : Int) : Option (Int) :=
 bif decide (v11 < (List.length a2 : Int)) then ((ix a2 v11).bind fun x1 =>
 (ix a0 start0).bind fun x2 =>
 (ix x2 x1).bind fun x3 =>
 r2 x3 (W (v11 + (1 : Int))))
 else (k0 start0)
def f59_i103_2 (a0 : List (List Int)) (a2 : List Int) (k0 : Int → Option (Int)) : Nat → Int → Int → Option (Int)
  | 0, _, _ => none
  | n + 1, start0, v11 => f59_i103_2b (f59_i103_2 a0 a2 k0 n) a0 a2 k0 start0 v11
def Lf59_i103_2 (a0 : List (List Int)) (a2 : List Int) (k0 : Int → Option (Int)) : Lp (Nat × Int × Int) Unit (Int) := lp0 ⟨[0, 2, 9, 10, 11], [0], [], []⟩ (fun (_, start0, v11) => [.dat (iN start0), .fn 87 [] [.ptr 0 0], .dat (sl_iN a2), .dat (iN (List.length a2 : Int)), .dat (iN v11)]) (fun (_, _, _) => [.box [.dat (sl_sl_iN a0)]]) (fun (n, start0, v11) => f59_i103_2 a0 a2 k0 n start0 v11)
theorem Ef59_i103_2 {a0 a2 k0 n start0 v11} : (Lf59_i103_2 a0 a2 k0).E (n, start0, v11) = f59_i103_2 a0 a2 k0 n start0 v11 := rfl
def f59 (N : Nat) (a0 : List (List Int)) (a1 : Int) (a2 : List Int) : Option (Int) :=
 joinK (f59_i103_c6 a0) fun k0 =>
 f59_i103_2 a0 a2 k0 N a1 (0 : Int)
def G59 (ds : List D) (d : D) : Prop := ∃ (N : Nat) (a0 : List (List Int)) (a1 : Int) (a2 : List Int) (r : Int), ds = [sl_sl_iN a0, iN a1, sl_iN a2] ∧ f59 N a0 a1 a2 = some r ∧ d = iN r
theorem G59.lend {N : Nat} {a0 : List (List Int)} {a1 : Int} {a2 : List Int} {ρ : Type} {A : Int → Option ρ} {q : ρ} {ds : List D} {K : D → Prop} (hd : ds = [sl_sl_iN a0, iN a1, sl_iN a2]) (h : ∀ r, A r = some q → K (iN r)) (hF : (f59 N a0 a1 a2).bind A = some q) : ∃ d, (G59 ds d ∧ d.flatB = true) ∧ K d := by
  obtain ⟨r, hr, hA⟩ := bind_some hF
  exact ⟨_, ⟨⟨N, a0, a1, a2, r, hd, hr, rfl⟩, rfl⟩, h r hA⟩
theorem G59.step {N : Nat} {a0 : List (List Int)} {a1 : Int} {a2 : List Int} {ρ : Type} {A : Int → Option ρ} {q : ρ} {ds : List D} {K : D → Prop} (hd : ds = [sl_sl_iN a0, iN a1, sl_iN a2]) (h : ∀ r, A r = some q → K (iN r)) (hF : (f59 N a0 a1 a2).bind A = some q) : ∃ d, G59 ds d ∧ K d := by
  obtain ⟨r, hr, hA⟩ := bind_some hF
  exact ⟨_, ⟨N, a0, a1, a2, r, hd, hr, rfl⟩, h r hA⟩
set_option maxRecDepth 20000 in
set_option maxHeartbeats 4000000 in
theorem P59 : PureOK Try.prog 59 G59 := by
  refine pure_of_vc (c := mkCtx tyTree [(72, false, inlPg (mkCtx tyTree [(87, false, inlPg (mkCtx tyTree []) Try.f87)]) Try.f72)]) rfl tyOK (ctx_eff (callable Try.func72 rfl rfl) (CallOK.inl rfl tyOK (ctx_eff (callable Try.func87 rfl rfl) (CallOK.inl rfl tyOK (ctx_nil) Try.func87 (by kernel_rfl)) (ctx_nil)) Try.func72 (by kernel_rfl)) (ctx_nil)) [[0]] 3 Try.func59 rfl rfl (by decide) (by kernel_rfl) ?_
  rintro ds d ⟨N, a0, a1, a2, r, rfl, hF, rfl⟩ hok
  clear hok
  refine ⟨rfl, ?_⟩
  show vc _ _ _ _ ⟨[(0, .dat (sl_sl_iN a0)), (1, .dat (iN a1)), (2, .dat (sl_iN a2))], []⟩ _
  unfold f59 at hF
  repeat' (first
    | ((with_reducible first | refine q0 _ _ ?_ | refine q1 _ _ _ _ ?_ | refine q2 _ _ _ ?_); clear Q q0 q1 q2)
    | ((with_reducible first | refine seq_op ?hx (fun Q q0 q1 q2 => ?_)); (case hx => exact rfl); conv => whnf)
    | ((with_reducible refine cond_id ?_); (first | ((refine condKT rfl ?hy ?_); (case hy => first | assumption | exact notT (by assumption) | exact rfl)) | ((refine condKF rfl ?hy ?_); (case hy => first | assumption | exact notF (by assumption) | exact rfl)) | (revert hF; (with_reducible refine condF ?hx ?_ ?_); (case hx => exact rfl); all_goals (intro hc hF))))
    | ((with_reducible refine seq_nil ?_); (first | ((with_reducible refine hR _ ?_); clear R hR) | ((with_reducible refine hL _ ?_); clear L hL)))
    | ((with_reducible first | refine int_step ?_ | refine len_step ?_ | refine idx2 (by assumption) ?_ | refine idx3 (by assumption) ?_); conv => whnf)
    | (with_reducible first | refine vc_block ?_ | refine vc_skip ?_ | refine vc_ret ?_ | refine vc_exit ?_ | refine vc_region (fun R hR => ?_) | refine k_seq_ret ?_ | refine k_seq_exit ?_ | refine k_blk ?_ | refine k_blk_ret ?_ | refine k_blk_here ?_ | refine k_loop_ret ?_ | refine k_loop_exit ?_)
    | ((with_reducible refine vc_seqN [104000000006] ?hx ?_); (case hx => exact rfl))
    | (revert hF; (refine Lp.cut1 Lf59_i103_c6 f59_i103_c6 104000000006 rfl rfl ?_ ?_); (intro hF); rotate_left; (rintro start0 hF; dsimp only [Lf59_i103_c6] at hF; unfold f59_i103_c6 at hF); rotate_right)
    | exact Lp.head Ef59_i103_c6 hF () ⟨_, rfl, rfl, rfl, rfl⟩ rfl
    | (revert hF; (refine Lp.loop Ef59_i103_2 () rfl ⟨_, rfl, rfl, rfl, rfl⟩ rfl (fun _ => rfl) ?_); rintro n ⟨start0, v11⟩ hF; dsimp only [Lf59_i103_2, f59_i103_2] at hF; unfold f59_i103_2b at hF)
    | exact Lp.back Ef59_i103_2 hF () ⟨_, rfl, rfl, rfl, rfl⟩ rfl
    | ((with_reducible first | refine k_blk_out ?hx ?_ | refine vc_condT ?hx ?_); (case hx => exact rfl))
    | (revert hF; (with_reducible refine idx1 ?hn ?_); (case hn => first | exact rfl | exact (List.length_map _) | assumption | omega | simp); intro x hx hF; conv => whnf)
    | ((refine row_all ?hn ?_); (case hn => first | exact rfl | (simp; done) | (simp; omega)); conv => whnf)
    | ((with_reducible refine le_step ?hn ?_); (case hn => first | exact rfl | assumption | omega); conv => whnf)
    | ((refine ⟨?hx, ?_⟩); (case hx => exact ⟨rfl, Nat.le_of_ble_eq_true rfl, rfl⟩); conv => whnf)
    | ((with_reducible refine ex_step ?_); conv => whnf)
    | ((with_reducible refine both_T ?hx ?_); (case hx => first | exact rfl | assumption | exact notT (by assumption)); conv => whnf)
    | ((with_reducible refine both_F ?hx ?_); (case hx => first | exact rfl | assumption | exact notF (by assumption)); conv => whnf)
    | (revert hF; (with_reducible refine ite_step ?_ ?_) <;> (intro hc hF; conv => whnf))
    | ((with_reducible refine vc_condF ?hx ?_); (case hx => exact rfl))
    | (show retD _ _ _ _ _ _; conv => whnf)
    | ((refine inl_step ?ha ?hb ?hc rfl ?_); (case ha => exact rfl); (case hb => omega); (case hc => exact Nat.le_of_ble_eq_true rfl))
    | (show Kinl _ _ _ _ _ _ _; conv => whnf)
    | ((with_reducible refine kinl_step ?ha ?hb ?_); (case ha => exact rfl); (case hb => exact rfl); conv => whnf)
    | ((refine ⟨?hx, trivial⟩); (case hx => (cases hF; exact rfl)))
    | ((refine ⟨?hx, ?_⟩); (case hx => decide); conv => whnf)
    | with_reducible refine k_seq ?_
    | (have hF : (none : Option _) = some _ := hF; cases hF))
end
end Go.Vc
namespace Go.Vc
open Go.Proofs
set_option linter.unusedVariables false
set_option linter.unnecessarySimpa false
set_option linter.unusedSimpArgs false
section
variable {c : Ctx} {p nid : Nat} {a b : Code} {st : St} {K : Ex → St → Prop}
/- f21: tusche/serial.State -/
def f21 (N : Nat) (a0 : List (List Int)) (a1 : List Int) : Option (Int × Int) :=
 (f58 N a0 a1).bind fun x1 =>
 bif decide (¬ x1 = (0 : Int)) then (some ((0 : Int), x1))
 else ((f59 N a0 (0 : Int) a1).bind fun x2 =>
 some (x2, (0 : Int)))
def G21 (ds : List D) (d : D) : Prop := ∃ (N : Nat) (a0 : List (List Int)) (a1 : List Int) (r : Int × Int), ds = [sl_sl_iN a0, sl_iN a1] ∧ f21 N a0 a1 = some r ∧ d = .tup [iN r.1, iN r.2]
theorem G21.lend {N : Nat} {a0 : List (List Int)} {a1 : List Int} {ρ : Type} {A : (Int × Int) → Option ρ} {q : ρ} {ds : List D} {K : D → Prop} (hd : ds = [sl_sl_iN a0, sl_iN a1]) (h : ∀ r, A r = some q → K (.tup [iN r.1, iN r.2])) (hF : (f21 N a0 a1).bind A = some q) : ∃ d, (G21 ds d ∧ d.flatB = true) ∧ K d := by
  obtain ⟨r, hr, hA⟩ := bind_some hF
  exact ⟨_, ⟨⟨N, a0, a1, r, hd, hr, rfl⟩, rfl⟩, h r hA⟩
theorem G21.step {N : Nat} {a0 : List (List Int)} {a1 : List Int} {ρ : Type} {A : (Int × Int) → Option ρ} {q : ρ} {ds : List D} {K : D → Prop} (hd : ds = [sl_sl_iN a0, sl_iN a1]) (h : ∀ r, A r = some q → K (.tup [iN r.1, iN r.2])) (hF : (f21 N a0 a1).bind A = some q) : ∃ d, G21 ds d ∧ K d := by
  obtain ⟨r, hr, hA⟩ := bind_some hF
  exact ⟨_, ⟨N, a0, a1, r, hd, hr, rfl⟩, h r hA⟩
set_option maxRecDepth 20000 in
set_option maxHeartbeats 4000000 in
theorem P21 : PureOK Try.prog 21 G21 := by
  refine pure_of_vc (c := mkCtx tyTree [(59, true, lendPg [[1], [0], [1]] G59), (58, true, lendPg [[1], [1]] G58)]) rfl tyOK (ctx_lend (callable Try.func59 rfl rfl) P59 (ctx_lend (callable Try.func58 rfl rfl) P58 (ctx_nil))) [[0], [0]] 2 Try.func21 rfl rfl (by decide) (by kernel_rfl) ?_
  rintro ds d ⟨N, a0, a1, r, rfl, hF, rfl⟩ hok
  clear hok
  refine ⟨rfl, ?_⟩
  show vc _ _ _ _ ⟨[(0, .dat (sl_sl_iN a0)), (1, .dat (sl_iN a1))], []⟩ _
  unfold f21 at hF
  repeat' (first
    | ((with_reducible first | refine q0 _ _ ?_ | refine q1 _ _ _ _ ?_ | refine q2 _ _ _ ?_); clear Q q0 q1 q2)
    | ((with_reducible first | refine seq_op ?hx (fun Q q0 q1 q2 => ?_)); (case hx => exact rfl); conv => whnf)
    | ((with_reducible refine cond_id ?_); (first | ((refine condKT rfl ?hy ?_); (case hy => first | assumption | exact notT (by assumption) | exact rfl)) | ((refine condKF rfl ?hy ?_); (case hy => first | assumption | exact notF (by assumption) | exact rfl)) | (revert hF; (with_reducible refine condF ?hx ?_ ?_); (case hx => exact rfl); all_goals (intro hc hF))))
    | ((with_reducible refine seq_nil ?_); (first | ((with_reducible refine hR _ ?_); clear R hR) | ((with_reducible refine hL _ ?_); clear L hL)))
    | ((with_reducible first | refine int_step ?_); conv => whnf)
    | (with_reducible first | refine vc_block ?_ | refine vc_skip ?_ | refine vc_ret ?_ | refine vc_exit ?_ | refine vc_region (fun R hR => ?_) | refine k_seq_ret ?_ | refine k_seq_exit ?_ | refine k_blk ?_ | refine k_blk_ret ?_ | refine k_blk_here ?_)
    | ((with_reducible refine vc_seqN [] ?hx ?_); (case hx => exact rfl))
    | (revert hF; (with_reducible refine G58.lend ?hx ?_); (case hx => exact rfl); intro v hF; conv => whnf)
    | (revert hF; (with_reducible refine G59.lend ?hx ?_); (case hx => exact rfl); intro v hF; conv => whnf)
    | ((with_reducible first | refine k_blk_out ?hx ?_ | refine vc_condT ?hx ?_); (case hx => exact rfl))
    | ((refine row_all ?hn ?_); (case hn => first | exact rfl | (simp; done) | (simp; omega)); conv => whnf)
    | ((with_reducible refine le_step ?hn ?_); (case hn => first | exact rfl | assumption | omega); conv => whnf)
    | ((refine ⟨?hx, ?_⟩); (case hx => exact ⟨rfl, Nat.le_of_ble_eq_true rfl, rfl⟩); conv => whnf)
    | ((with_reducible refine ex_step ?_); conv => whnf)
    | ((with_reducible refine both_T ?hx ?_); (case hx => first | exact rfl | assumption | exact notT (by assumption)); conv => whnf)
    | ((with_reducible refine both_F ?hx ?_); (case hx => first | exact rfl | assumption | exact notF (by assumption)); conv => whnf)
    | (revert hF; (with_reducible refine ite_step ?_ ?_) <;> (intro hc hF; conv => whnf))
    | ((with_reducible refine vc_condF ?hx ?_); (case hx => exact rfl))
    | (show retD _ _ _ _ _ _; conv => whnf)
    | ((refine ⟨?hx, trivial⟩); (case hx => (cases hF; exact rfl)))
    | ((refine ⟨?hx, ?_⟩); (case hx => decide); conv => whnf)
    | with_reducible refine k_seq ?_
    | (have hF : (none : Option _) = some _ := hF; cases hF))
end
end Go.Vc
namespace Go.Vc
open Go.Proofs
set_option linter.unusedVariables false
set_option linter.unnecessarySimpa false
set_option linter.unusedSimpArgs false
section
variable {c : Ctx} {p nid : Nat} {a b : Code} {st : St} {K : Ex → St → Prop}
/- f62: slices.Index[[]int,int] -/
def f62_c7 : Option (Int) :=
 some ((-1 : Int))
def Lf62_c7 : Lp (Unit) Unit (Int) := lp0 ⟨[], [], [], []⟩ (fun _ => []) (fun _ => []) (fun _ => f62_c7)
theorem Ef62_c7 : (Lf62_c7).E () = f62_c7 := rfl
def f62_2b (r2 : Int → Option (Int)) (a0 : List Int) (a1 : Int) (k0 : Option (Int)) (v8 : Int) : Option (Int) :=
 bif decide (v8 < (List.length a0 : Int)) then ((ix a0 v8).bind fun x1 =>
 bif decide (a1 = x1) then (some (v8))
 else (r2 (W (v8 + (1 : Int)))))
 else k0
def f62_2 (a0 : List Int) (a1 : Int) (k0 : Option (Int)) : Nat → Int → Option (Int)
  | 0, _ => none
  | n + 1, v8 => f62_2b (f62_2 a0 a1 k0 n) a0 a1 k0 v8
def Lf62_2 (a0 : List Int) (a1 : Int) (k0 : Option (Int)) : Lp (Nat × Int) Unit (Int) := lp0 ⟨[0, 1, 7, 8], [], [], []⟩ (fun (_, v8) => [.dat (sl_iN a0), .dat (iN a1), .dat (iN (List.length a0 : Int)), .dat (iN v8)]) (fun (_, _) => []) (fun (n, v8) => f62_2 a0 a1 k0 n v8)
theorem Ef62_2 {a0 a1 k0 n v8} : (Lf62_2 a0 a1 k0).E (n, v8) = f62_2 a0 a1 k0 n v8 := rfl
def f62 (N : Nat) (a0 : List Int) (a1 : Int) : Option (Int) :=
 joinK f62_c7 fun k0 =>
 f62_2 a0 a1 k0 N (0 : Int)
def G62 (ds : List D) (d : D) : Prop := ∃ (N : Nat) (a0 : List Int) (a1 : Int) (r : Int), ds = [sl_iN a0, iN a1] ∧ f62 N a0 a1 = some r ∧ d = iN r
theorem G62.lend {N : Nat} {a0 : List Int} {a1 : Int} {ρ : Type} {A : Int → Option ρ} {q : ρ} {ds : List D} {K : D → Prop} (hd : ds = [sl_iN a0, iN a1]) (h : ∀ r, A r = some q → K (iN r)) (hF : (f62 N a0 a1).bind A = some q) : ∃ d, (G62 ds d ∧ d.flatB = true) ∧ K d := by
  obtain ⟨r, hr, hA⟩ := bind_some hF
  exact ⟨_, ⟨⟨N, a0, a1, r, hd, hr, rfl⟩, rfl⟩, h r hA⟩
theorem G62.step {N : Nat} {a0 : List Int} {a1 : Int} {ρ : Type} {A : Int → Option ρ} {q : ρ} {ds : List D} {K : D → Prop} (hd : ds = [sl_iN a0, iN a1]) (h : ∀ r, A r = some q → K (iN r)) (hF : (f62 N a0 a1).bind A = some q) : ∃ d, G62 ds d ∧ K d := by
  obtain ⟨r, hr, hA⟩ := bind_some hF
  exact ⟨_, ⟨N, a0, a1, r, hd, hr, rfl⟩, h r hA⟩
set_option maxRecDepth 20000 in
set_option maxHeartbeats 4000000 in
theorem P62 : PureOK Try.prog 62 G62 := by
  refine pure_of_vc (c := mkCtx tyTree []) rfl tyOK (ctx_nil) [[0]] 2 Try.func62 rfl rfl (by decide) (by kernel_rfl) ?_
  rintro ds d ⟨N, a0, a1, r, rfl, hF, rfl⟩ hok
  clear hok
  refine ⟨rfl, ?_⟩
  show vc _ _ _ _ ⟨[(0, .dat (sl_iN a0)), (1, .dat (iN a1))], []⟩ _
  unfold f62 at hF
  repeat' (first
    | ((with_reducible first | refine q0 _ _ ?_ | refine q1 _ _ _ _ ?_ | refine q2 _ _ _ ?_); clear Q q0 q1 q2)
    | ((with_reducible first | refine seq_op ?hx (fun Q q0 q1 q2 => ?_)); (case hx => exact rfl); conv => whnf)
    | ((with_reducible refine cond_id ?_); (first | ((refine condKT rfl ?hy ?_); (case hy => first | assumption | exact notT (by assumption) | exact rfl)) | ((refine condKF rfl ?hy ?_); (case hy => first | assumption | exact notF (by assumption) | exact rfl)) | (revert hF; (with_reducible refine condF ?hx ?_ ?_); (case hx => exact rfl); all_goals (intro hc hF))))
    | ((with_reducible refine seq_nil ?_); (first | ((with_reducible refine hR _ ?_); clear R hR) | ((with_reducible refine hL _ ?_); clear L hL)))
    | ((with_reducible first | refine int_step ?_ | refine len_step ?_ | refine idx2 (by assumption) ?_ | refine idx3 (by assumption) ?_); conv => whnf)
    | (with_reducible first | refine vc_block ?_ | refine vc_skip ?_ | refine vc_ret ?_ | refine vc_exit ?_ | refine vc_region (fun R hR => ?_) | refine k_seq_ret ?_ | refine k_seq_exit ?_ | refine k_blk ?_ | refine k_blk_ret ?_ | refine k_blk_here ?_ | refine k_loop_ret ?_ | refine k_loop_exit ?_)
    | ((with_reducible refine vc_seqN [7] ?hx ?_); (case hx => exact rfl))
    | (revert hF; (refine Lp.cut0 Lf62_c7 f62_c7 7 rfl rfl ?_ ?_); (intro hF); rotate_left; (rintro _ hF; dsimp only [Lf62_c7] at hF; unfold f62_c7 at hF); rotate_right)
    | exact Lp.head Ef62_c7 hF () ⟨_, rfl, rfl, rfl, rfl⟩ rfl
    | (revert hF; (refine Lp.loop Ef62_2 () rfl ⟨_, rfl, rfl, rfl, rfl⟩ rfl (fun _ => rfl) ?_); rintro n v8 hF; dsimp only [Lf62_2, f62_2] at hF; unfold f62_2b at hF)
    | exact Lp.back Ef62_2 hF () ⟨_, rfl, rfl, rfl, rfl⟩ rfl
    | ((with_reducible first | refine k_blk_out ?hx ?_ | refine vc_condT ?hx ?_); (case hx => exact rfl))
    | (revert hF; (with_reducible refine idx1 ?hn ?_); (case hn => first | exact rfl | exact (List.length_map _) | assumption | omega | simp); intro x hx hF; conv => whnf)
    | ((refine row_all ?hn ?_); (case hn => first | exact rfl | (simp; done) | (simp; omega)); conv => whnf)
    | ((with_reducible refine le_step ?hn ?_); (case hn => first | exact rfl | assumption | omega); conv => whnf)
    | ((refine ⟨?hx, ?_⟩); (case hx => exact ⟨rfl, Nat.le_of_ble_eq_true rfl, rfl⟩); conv => whnf)
    | ((with_reducible refine ex_step ?_); conv => whnf)
    | ((with_reducible refine both_T ?hx ?_); (case hx => first | exact rfl | assumption | exact notT (by assumption)); conv => whnf)
    | ((with_reducible refine both_F ?hx ?_); (case hx => first | exact rfl | assumption | exact notF (by assumption)); conv => whnf)
    | (revert hF; (with_reducible refine ite_step ?_ ?_) <;> (intro hc hF; conv => whnf))
    | ((with_reducible refine vc_condF ?hx ?_); (case hx => exact rfl))
    | (show retD _ _ _ _ _ _; conv => whnf)
    | ((refine ⟨?hx, trivial⟩); (case hx => (cases hF; exact rfl)))
    | ((refine ⟨?hx, ?_⟩); (case hx => decide); conv => whnf)
    | with_reducible refine k_seq ?_
    | (have hF : (none : Option _) = some _ := hF; cases hF))
end
end Go.Vc
namespace Go.Vc
open Go.Proofs
set_option linter.unusedVariables false
set_option linter.unnecessarySimpa false
set_option linter.unusedSimpArgs false
section
variable {c : Ctx} {p nid : Nat} {a b : Code} {st : St} {K : Ex → St → Prop}
/- f23: tusche/serial.Digit -/
def f23 (N : Nat) (a0 : List (List Int)) (a1 : List Int) : Option (Int × Int) :=
 (f21 N a0 a1).bind fun x1 =>
 bif decide (¬ x1.2 = (0 : Int)) then (some ((0 : Int), x1.2))
 else ((ix a0 x1.1).bind fun x2 =>
 (f62 N x2 (0 : Int)).bind fun x3 =>
 some (x3, (0 : Int)))
def G23 (ds : List D) (d : D) : Prop := ∃ (N : Nat) (a0 : List (List Int)) (a1 : List Int) (r : Int × Int), ds = [sl_sl_iN a0, sl_iN a1] ∧ f23 N a0 a1 = some r ∧ d = .tup [iN r.1, iN r.2]
theorem G23.lend {N : Nat} {a0 : List (List Int)} {a1 : List Int} {ρ : Type} {A : (Int × Int) → Option ρ} {q : ρ} {ds : List D} {K : D → Prop} (hd : ds = [sl_sl_iN a0, sl_iN a1]) (h : ∀ r, A r = some q → K (.tup [iN r.1, iN r.2])) (hF : (f23 N a0 a1).bind A = some q) : ∃ d, (G23 ds d ∧ d.flatB = true) ∧ K d := by
  obtain ⟨r, hr, hA⟩ := bind_some hF
  exact ⟨_, ⟨⟨N, a0, a1, r, hd, hr, rfl⟩, rfl⟩, h r hA⟩
theorem G23.step {N : Nat} {a0 : List (List Int)} {a1 : List Int} {ρ : Type} {A : (Int × Int) → Option ρ} {q : ρ} {ds : List D} {K : D → Prop} (hd : ds = [sl_sl_iN a0, sl_iN a1]) (h : ∀ r, A r = some q → K (.tup [iN r.1, iN r.2])) (hF : (f23 N a0 a1).bind A = some q) : ∃ d, G23 ds d ∧ K d := by
  obtain ⟨r, hr, hA⟩ := bind_some hF
  exact ⟨_, ⟨N, a0, a1, r, hd, hr, rfl⟩, h r hA⟩
set_option maxRecDepth 20000 in
set_option maxHeartbeats 4000000 in
theorem P23 : PureOK Try.prog 23 G23 := by
  refine pure_of_vc (c := mkCtx tyTree [(62, true, lendPg [[1], [0]] G62), (21, true, lendPg [[1], [1]] G21)]) rfl tyOK (ctx_lend (callable Try.func62 rfl rfl) P62 (ctx_lend (callable Try.func21 rfl rfl) P21 (ctx_nil))) [[0], [0]] 2 Try.func23 rfl rfl (by decide) (by kernel_rfl) ?_
  rintro ds d ⟨N, a0, a1, r, rfl, hF, rfl⟩ hok
  clear hok
  refine ⟨rfl, ?_⟩
  show vc _ _ _ _ ⟨[(0, .dat (sl_sl_iN a0)), (1, .dat (sl_iN a1))], []⟩ _
  unfold f23 at hF
  repeat' (first
    | ((with_reducible first | refine q0 _ _ ?_ | refine q1 _ _ _ _ ?_ | refine q2 _ _ _ ?_); clear Q q0 q1 q2)
    | ((with_reducible first | refine seq_op ?hx (fun Q q0 q1 q2 => ?_)); (case hx => exact rfl); conv => whnf)
    | ((with_reducible refine cond_id ?_); (first | ((refine condKT rfl ?hy ?_); (case hy => first | assumption | exact notT (by assumption) | exact rfl)) | ((refine condKF rfl ?hy ?_); (case hy => first | assumption | exact notF (by assumption) | exact rfl)) | (revert hF; (with_reducible refine condF ?hx ?_ ?_); (case hx => exact rfl); all_goals (intro hc hF))))
    | ((with_reducible refine seq_nil ?_); (first | ((with_reducible refine hR _ ?_); clear R hR) | ((with_reducible refine hL _ ?_); clear L hL)))
    | ((with_reducible first | refine int_step ?_ | refine idx2 (by assumption) ?_ | refine idx3 (by assumption) ?_); conv => whnf)
    | (with_reducible first | refine vc_block ?_ | refine vc_skip ?_ | refine vc_ret ?_ | refine vc_exit ?_ | refine vc_region (fun R hR => ?_) | refine k_seq_ret ?_ | refine k_seq_exit ?_ | refine k_blk ?_ | refine k_blk_ret ?_ | refine k_blk_here ?_)
    | ((with_reducible refine vc_seqN [] ?hx ?_); (case hx => exact rfl))
    | (revert hF; (with_reducible refine G21.lend ?hx ?_); (case hx => exact rfl); intro v hF; conv => whnf)
    | (revert hF; (with_reducible refine G62.lend ?hx ?_); (case hx => exact rfl); intro v hF; conv => whnf)
    | ((with_reducible first | refine k_blk_out ?hx ?_ | refine vc_condT ?hx ?_); (case hx => exact rfl))
    | (revert hF; (with_reducible refine idx1 ?hn ?_); (case hn => first | exact rfl | exact (List.length_map _) | assumption | omega | simp); intro x hx hF; conv => whnf)
    | ((refine row_all ?hn ?_); (case hn => first | exact rfl | (simp; done) | (simp; omega)); conv => whnf)
    | ((with_reducible refine le_step ?hn ?_); (case hn => first | exact rfl | assumption | omega); conv => whnf)
    | ((refine ⟨?hx, ?_⟩); (case hx => exact ⟨rfl, Nat.le_of_ble_eq_true rfl, rfl⟩); conv => whnf)
    | ((with_reducible refine ex_step ?_); conv => whnf)
    | ((with_reducible refine both_T ?hx ?_); (case hx => first | exact rfl | assumption | exact notT (by assumption)); conv => whnf)
    | ((with_reducible refine both_F ?hx ?_); (case hx => first | exact rfl | assumption | exact notF (by assumption)); conv => whnf)
    | (revert hF; (with_reducible refine ite_step ?_ ?_) <;> (intro hc hF; conv => whnf))
    | ((with_reducible refine vc_condF ?hx ?_); (case hx => exact rfl))
    | (show retD _ _ _ _ _ _; conv => whnf)
    | ((refine ⟨?hx, trivial⟩); (case hx => (cases hF; exact rfl)))
    | ((refine ⟨?hx, ?_⟩); (case hx => decide); conv => whnf)
    | with_reducible refine k_seq ?_
    | (have hF : (none : Option _) = some _ := hF; cases hF))
end
end Go.Vc
namespace Go.Vc
open Go.Proofs
set_option linter.unusedVariables false
set_option linter.unnecessarySimpa false
set_option linter.unusedSimpArgs false
section
variable {c : Ctx} {p nid : Nat} {a b : Code} {st : St} {K : Ex → St → Prop}
/- f63: tusche/serial.coded -/
def f63 (N : Nat) (a0 : List (List Int)) (a1 : List Int) : Option (Int) :=
 (f49 N a0).bind fun x1 =>
 bif decide (¬ x1 = (0 : Int)) then (some (x1))
 else (bif decide ((List.length a1 : Int) < (2 : Int)) then (some ((1 : Int)))
 else ((f58 N a0 a1).bind fun x2 =>
 some (x2)))
def G63 (ds : List D) (d : D) : Prop := ∃ (N : Nat) (a0 : List (List Int)) (a1 : List Int) (r : Int), ds = [sl_sl_iN a0, sl_iN a1] ∧ f63 N a0 a1 = some r ∧ d = iN r
theorem G63.lend {N : Nat} {a0 : List (List Int)} {a1 : List Int} {ρ : Type} {A : Int → Option ρ} {q : ρ} {ds : List D} {K : D → Prop} (hd : ds = [sl_sl_iN a0, sl_iN a1]) (h : ∀ r, A r = some q → K (iN r)) (hF : (f63 N a0 a1).bind A = some q) : ∃ d, (G63 ds d ∧ d.flatB = true) ∧ K d := by
  obtain ⟨r, hr, hA⟩ := bind_some hF
  exact ⟨_, ⟨⟨N, a0, a1, r, hd, hr, rfl⟩, rfl⟩, h r hA⟩
theorem G63.step {N : Nat} {a0 : List (List Int)} {a1 : List Int} {ρ : Type} {A : Int → Option ρ} {q : ρ} {ds : List D} {K : D → Prop} (hd : ds = [sl_sl_iN a0, sl_iN a1]) (h : ∀ r, A r = some q → K (iN r)) (hF : (f63 N a0 a1).bind A = some q) : ∃ d, G63 ds d ∧ K d := by
  obtain ⟨r, hr, hA⟩ := bind_some hF
  exact ⟨_, ⟨N, a0, a1, r, hd, hr, rfl⟩, h r hA⟩
set_option maxRecDepth 20000 in
set_option maxHeartbeats 4000000 in
theorem P63 : PureOK Try.prog 63 G63 := by
  refine pure_of_vc (c := mkCtx tyTree [(58, true, lendPg [[1], [1]] G58), (49, true, lendPg [[1]] G49)]) rfl tyOK (ctx_lend (callable Try.func58 rfl rfl) P58 (ctx_lend (callable Try.func49 rfl rfl) P49 (ctx_nil))) [[0]] 2 Try.func63 rfl rfl (by decide) (by kernel_rfl) ?_
  rintro ds d ⟨N, a0, a1, r, rfl, hF, rfl⟩ hok
  clear hok
  refine ⟨rfl, ?_⟩
  show vc _ _ _ _ ⟨[(0, .dat (sl_sl_iN a0)), (1, .dat (sl_iN a1))], []⟩ _
  unfold f63 at hF
  repeat' (first
    | ((with_reducible first | refine q0 _ _ ?_ | refine q1 _ _ _ _ ?_ | refine q2 _ _ _ ?_); clear Q q0 q1 q2)
    | ((with_reducible first | refine seq_op ?hx (fun Q q0 q1 q2 => ?_)); (case hx => exact rfl); conv => whnf)
    | ((with_reducible refine cond_id ?_); (first | ((refine condKT rfl ?hy ?_); (case hy => first | assumption | exact notT (by assumption) | exact rfl)) | ((refine condKF rfl ?hy ?_); (case hy => first | assumption | exact notF (by assumption) | exact rfl)) | (revert hF; (with_reducible refine condF ?hx ?_ ?_); (case hx => exact rfl); all_goals (intro hc hF))))
    | ((with_reducible refine seq_nil ?_); (first | ((with_reducible refine hR _ ?_); clear R hR) | ((with_reducible refine hL _ ?_); clear L hL)))
    | ((with_reducible first | refine int_step ?_ | refine len_step ?_); conv => whnf)
    | (with_reducible first | refine vc_block ?_ | refine vc_skip ?_ | refine vc_ret ?_ | refine vc_exit ?_ | refine vc_region (fun R hR => ?_) | refine k_seq_ret ?_ | refine k_seq_exit ?_ | refine k_blk ?_ | refine k_blk_ret ?_ | refine k_blk_here ?_)
    | ((with_reducible refine vc_seqN [] ?hx ?_); (case hx => exact rfl))
    | (revert hF; (with_reducible refine G49.lend ?hx ?_); (case hx => exact rfl); intro v hF; conv => whnf)
    | (revert hF; (with_reducible refine G58.lend ?hx ?_); (case hx => exact rfl); intro v hF; conv => whnf)
    | ((with_reducible first | refine k_blk_out ?hx ?_ | refine vc_condT ?hx ?_); (case hx => exact rfl))
    | ((refine row_all ?hn ?_); (case hn => first | exact rfl | (simp; done) | (simp; omega)); conv => whnf)
    | ((with_reducible refine le_step ?hn ?_); (case hn => first | exact rfl | assumption | omega); conv => whnf)
    | ((refine ⟨?hx, ?_⟩); (case hx => exact ⟨rfl, Nat.le_of_ble_eq_true rfl, rfl⟩); conv => whnf)
    | ((with_reducible refine ex_step ?_); conv => whnf)
    | ((with_reducible refine both_T ?hx ?_); (case hx => first | exact rfl | assumption | exact notT (by assumption)); conv => whnf)
    | ((with_reducible refine both_F ?hx ?_); (case hx => first | exact rfl | assumption | exact notF (by assumption)); conv => whnf)
    | (revert hF; (with_reducible refine ite_step ?_ ?_) <;> (intro hc hF; conv => whnf))
    | ((with_reducible refine vc_condF ?hx ?_); (case hx => exact rfl))
    | (show retD _ _ _ _ _ _; conv => whnf)
    | ((refine ⟨?hx, trivial⟩); (case hx => (cases hF; exact rfl)))
    | ((refine ⟨?hx, ?_⟩); (case hx => decide); conv => whnf)
    | with_reducible refine k_seq ?_
    | (have hF : (none : Option _) = some _ := hF; cases hF))
end
end Go.Vc
namespace Go.Vc
open Go.Proofs
set_option linter.unusedVariables false
set_option linter.unnecessarySimpa false
set_option linter.unusedSimpArgs false
section
variable {c : Ctx} {p nid : Nat} {a b : Code} {st : St} {K : Ex → St → Prop}
/- f65: tusche/serial.restored -/
def f65_i205_c7 (a0 : List (List Int)) (a1 : List Int) (a2 : Int) : Option (Int) :=
 some ((-1 : Int))
def Lf65_i205_c7 (a0 : List (List Int)) (a1 : List Int) (a2 : Int) : Lp (Unit) Unit (Int) := lp0 ⟨[], [0, 1, 2], [], []⟩ (fun _ => []) (fun _ => [.box [.dat (sl_sl_iN a0)], .box [.dat (sl_iN a1)], .box [.dat (iN a2)]]) (fun _ => f65_i205_c7 a0 a1 a2)
theorem Ef65_i205_c7 {a0 a1 a2} : (Lf65_i205_c7 a0 a1 a2).E () = f65_i205_c7 a0 a1 a2 := rfl
def f65_i205_2b (r2 : Int → Option (Int)) (a0 : List (List Int)) (a1 : List Int) (a2 : Int) (N : Nat) (x3 : List Int) (k0 : Option (Int)) (v8 : Int) : Option (Int) :=
 bif decide (v8 < (List.length x3 : Int)) then ((ix x3 v8).bind fun x4 =>
 (sub a1 (W (a2 + (1 : Int))) (List.length a1 : Int)).bind fun x5 =>
 (f59 N a0 x4 x5).bind fun x6 =>
 bif decide (x6 = (0 : Int)) then (some (v8))
 else (r2 (W (v8 + (1 : Int)))))
 else k0
def f65_i205_2 (a0 : List (List Int)) (a1 : List Int) (a2 : Int) (N : Nat) (x3 : List Int) (k0 : Option (Int)) : Nat → Int → Option (Int)
  | 0, _ => none
  | n + 1, v8 => f65_i205_2b (f65_i205_2 a0 a1 a2 N x3 k0 n) a0 a1 a2 N x3 k0 v8
def Lf65_i205_2 (a0 : List (List Int)) (a1 : List Int) (a2 : Int) (N : Nat) (x3 : List Int) (k0 : Option (Int)) : Lp (Nat × Int) Unit (Int) := lp0 ⟨[0, 1, 7, 8], [0, 1, 2], [], []⟩ (fun (_, v8) => [.dat (sl_iN x3), .fn 89 [] [.ptr 0 0, .ptr 1 0, .ptr 2 0], .dat (iN (List.length x3 : Int)), .dat (iN v8)]) (fun (_, _) => [.box [.dat (sl_sl_iN a0)], .box [.dat (sl_iN a1)], .box [.dat (iN a2)]]) (fun (n, v8) => f65_i205_2 a0 a1 a2 N x3 k0 n v8)
theorem Ef65_i205_2 {a0 a1 a2 N x3 k0 n v8} : (Lf65_i205_2 a0 a1 a2 N x3 k0).E (n, v8) = f65_i205_2 a0 a1 a2 N x3 k0 n v8 := rfl
def f65 (N : Nat) (a0 : List (List Int)) (a1 : List Int) (a2 : Int) : Option (Int) :=
 (sub a1 0 a2).bind fun x1 =>
 (f59 N a0 (0 : Int) x1).bind fun x2 =>
 (ix a0 x2).bind fun x3 =>
 joinK (f65_i205_c7 a0 a1 a2) fun k0 =>
 f65_i205_2 a0 a1 a2 N x3 k0 N (0 : Int)
def G65 (ds : List D) (d : D) : Prop := ∃ (N : Nat) (a0 : List (List Int)) (a1 : List Int) (a2 : Int) (r : Int), ds = [sl_sl_iN a0, sl_iN a1, iN a2] ∧ f65 N a0 a1 a2 = some r ∧ d = iN r
theorem G65.lend {N : Nat} {a0 : List (List Int)} {a1 : List Int} {a2 : Int} {ρ : Type} {A : Int → Option ρ} {q : ρ} {ds : List D} {K : D → Prop} (hd : ds = [sl_sl_iN a0, sl_iN a1, iN a2]) (h : ∀ r, A r = some q → K (iN r)) (hF : (f65 N a0 a1 a2).bind A = some q) : ∃ d, (G65 ds d ∧ d.flatB = true) ∧ K d := by
  obtain ⟨r, hr, hA⟩ := bind_some hF
  exact ⟨_, ⟨⟨N, a0, a1, a2, r, hd, hr, rfl⟩, rfl⟩, h r hA⟩
theorem G65.step {N : Nat} {a0 : List (List Int)} {a1 : List Int} {a2 : Int} {ρ : Type} {A : Int → Option ρ} {q : ρ} {ds : List D} {K : D → Prop} (hd : ds = [sl_sl_iN a0, sl_iN a1, iN a2]) (h : ∀ r, A r = some q → K (iN r)) (hF : (f65 N a0 a1 a2).bind A = some q) : ∃ d, G65 ds d ∧ K d := by
  obtain ⟨r, hr, hA⟩ := bind_some hF
  exact ⟨_, ⟨N, a0, a1, a2, r, hd, hr, rfl⟩, h r hA⟩
set_option maxRecDepth 20000 in
set_option maxHeartbeats 4000000 in
theorem P65 : PureOK Try.prog 65 G65 := by
  refine pure_of_vc (c := mkCtx tyTree [(88, false, inlPg (mkCtx tyTree [(89, false, inlPg (mkCtx tyTree [(59, true, lendPg [[1], [0], [1]] G59)]) Try.f89)]) Try.f88), (59, true, lendPg [[1], [0], [1]] G59)]) rfl tyOK (ctx_eff (callable Try.func88 rfl rfl) (CallOK.inl rfl tyOK (ctx_eff (callable Try.func89 rfl rfl) (CallOK.inl rfl tyOK (ctx_lend (callable Try.func59 rfl rfl) P59 (ctx_nil)) Try.func89 (by kernel_rfl)) (ctx_nil)) Try.func88 (by kernel_rfl)) (ctx_lend (callable Try.func59 rfl rfl) P59 (ctx_nil))) [[0]] 3 Try.func65 rfl rfl (by decide) (by kernel_rfl) ?_
  rintro ds d ⟨N, a0, a1, a2, r, rfl, hF, rfl⟩ hok
  clear hok
  refine ⟨rfl, ?_⟩
  show vc _ _ _ _ ⟨[(0, .dat (sl_sl_iN a0)), (1, .dat (sl_iN a1)), (2, .dat (iN a2))], []⟩ _
  unfold f65 at hF
  repeat' (first
    | ((with_reducible first | refine q0 _ _ ?_ | refine q1 _ _ _ _ ?_ | refine q2 _ _ _ ?_); clear Q q0 q1 q2)
    | ((with_reducible first | refine seq_op ?hx (fun Q q0 q1 q2 => ?_) | refine draw_op ?hx (fun Q q0 q1 q2 => ?_)); (case hx => exact rfl); conv => whnf)
    | ((with_reducible refine cond_id ?_); (first | ((refine condKT rfl ?hy ?_); (case hy => first | assumption | exact notT (by assumption) | exact rfl)) | ((refine condKF rfl ?hy ?_); (case hy => first | assumption | exact notF (by assumption) | exact rfl)) | (revert hF; (with_reducible refine condF ?hx ?_ ?_); (case hx => exact rfl); all_goals (intro hc hF))))
    | ((with_reducible refine seq_nil ?_); (first | ((with_reducible refine hR _ ?_); clear R hR) | ((with_reducible refine hL _ ?_); clear L hL)))
    | ((with_reducible refine draw_nil ?_); (with_reducible refine hR _ _ ?hx ?_); (case hx => kernel_rfl); (first | clear R hR | clear hR))
    | ((with_reducible first | refine int_step ?_ | refine len_step ?_ | refine idx2 (by assumption) ?_ | refine idx3 (by assumption) ?_); conv => whnf)
    | (with_reducible first | refine vc_block ?_ | refine vc_skip ?_ | refine vc_ret ?_ | refine vc_exit ?_ | refine vc_region (fun R hR => ?_) | refine k_seq_ret ?_ | refine k_seq_exit ?_ | refine k_blk ?_ | refine k_blk_ret ?_ | refine k_blk_here ?_ | refine k_loop_ret ?_ | refine k_loop_exit ?_)
    | ((with_reducible refine vc_seqN [206000000007] ?hx ?_); (case hx => exact rfl))
    | ((with_reducible refine vc_draw ?hx (fun R hR => ?_)); (case hx => exact rfl))
    | (revert hF; (refine Lp.cut3 Lf65_i205_c7 f65_i205_c7 206000000007 rfl rfl ?_ ?_); (intro hF); rotate_left; (rintro _ hF; dsimp only [Lf65_i205_c7] at hF; unfold f65_i205_c7 at hF); rotate_right)
    | exact Lp.head Ef65_i205_c7 hF () ⟨_, rfl, rfl, rfl, rfl⟩ rfl
    | (revert hF; (refine Lp.loop Ef65_i205_2 () rfl ⟨_, rfl, rfl, rfl, rfl⟩ rfl (fun _ => rfl) ?_); rintro n v8 hF; dsimp only [Lf65_i205_2, f65_i205_2] at hF; unfold f65_i205_2b at hF)
    | exact Lp.back Ef65_i205_2 hF () ⟨_, rfl, rfl, rfl, rfl⟩ rfl
    | (revert hF; (with_reducible refine G59.lend ?hx ?_); (case hx => exact rfl); intro v hF; conv => whnf)
    | ((with_reducible first | refine k_blk_out ?hx ?_ | refine vc_condT ?hx ?_); (case hx => exact rfl))
    | (revert hF; (with_reducible refine idx1 ?hn ?_); (case hn => first | exact rfl | exact (List.length_map _) | assumption | omega | simp); intro x hx hF; conv => whnf)
    | ((with_reducible have hG := sub_fact hF); clear hF; (refine sub_step hG (fun q hF => ?_)); clear hG; conv => whnf)
    | ((with_reducible refine Or.inr ?_); conv => whnf)
    | ((refine row_all ?hn ?_); (case hn => first | exact rfl | (simp; done) | (simp; omega)); conv => whnf)
    | ((with_reducible refine le_step ?hn ?_); (case hn => first | exact rfl | assumption | omega); conv => whnf)
    | ((refine ⟨?hx, ?_⟩); (case hx => exact ⟨rfl, Nat.le_of_ble_eq_true rfl, rfl⟩); conv => whnf)
    | ((with_reducible refine ex_step ?_); conv => whnf)
    | ((with_reducible refine both_T ?hx ?_); (case hx => first | exact rfl | assumption | exact notT (by assumption)); conv => whnf)
    | ((with_reducible refine both_F ?hx ?_); (case hx => first | exact rfl | assumption | exact notF (by assumption)); conv => whnf)
    | (revert hF; (with_reducible refine ite_step ?_ ?_) <;> (intro hc hF; conv => whnf))
    | ((with_reducible refine vc_condF ?hx ?_); (case hx => exact rfl))
    | (show retD _ _ _ _ _ _; conv => whnf)
    | ((refine inl_step ?ha ?hb ?hc rfl ?_); (case ha => exact rfl); (case hb => omega); (case hc => exact Nat.le_of_ble_eq_true rfl))
    | (show Kinl _ _ _ _ _ _ _; conv => whnf)
    | ((with_reducible refine kinl_step ?ha ?hb ?_); (case ha => exact rfl); (case hb => exact rfl); conv => whnf)
    | ((refine ⟨?hx, trivial⟩); (case hx => (cases hF; exact rfl)))
    | ((refine ⟨?hx, ?_⟩); (case hx => decide); conv => whnf)
    | with_reducible refine k_seq ?_
    | (have hF : (none : Option _) = some _ := hF; cases hF))
end
end Go.Vc
namespace Go.Vc
open Go.Proofs
set_option linter.unusedVariables false
set_option linter.unnecessarySimpa false
set_option linter.unusedSimpArgs false
section
variable {c : Ctx} {p nid : Nat} {a b : Code} {st : St} {K : Ex → St → Prop}
/- f25: tusche/serial.Restore -/
def f25 (N : Nat) (a0 : List (List Int)) (a1 : List Int) (a2 : Int) : Option (Int × Int) :=
 (f63 N a0 a1).bind fun x1 =>
 bif decide (¬ x1 = (0 : Int)) then (some ((0 : Int), x1))
 else ((f64 N (0 : Int) a2 (W ((List.length a1 : Int) - (1 : Int)))).bind fun x2 =>
 bif !x2 then (some ((0 : Int), (5 : Int)))
 else ((f65 N a0 a1 a2).bind fun x3 =>
 some (x3, (0 : Int))))
def G25 (ds : List D) (d : D) : Prop := ∃ (N : Nat) (a0 : List (List Int)) (a1 : List Int) (a2 : Int) (r : Int × Int), ds = [sl_sl_iN a0, sl_iN a1, iN a2] ∧ f25 N a0 a1 a2 = some r ∧ d = .tup [iN r.1, iN r.2]
theorem G25.lend {N : Nat} {a0 : List (List Int)} {a1 : List Int} {a2 : Int} {ρ : Type} {A : (Int × Int) → Option ρ} {q : ρ} {ds : List D} {K : D → Prop} (hd : ds = [sl_sl_iN a0, sl_iN a1, iN a2]) (h : ∀ r, A r = some q → K (.tup [iN r.1, iN r.2])) (hF : (f25 N a0 a1 a2).bind A = some q) : ∃ d, (G25 ds d ∧ d.flatB = true) ∧ K d := by
  obtain ⟨r, hr, hA⟩ := bind_some hF
  exact ⟨_, ⟨⟨N, a0, a1, a2, r, hd, hr, rfl⟩, rfl⟩, h r hA⟩
theorem G25.step {N : Nat} {a0 : List (List Int)} {a1 : List Int} {a2 : Int} {ρ : Type} {A : (Int × Int) → Option ρ} {q : ρ} {ds : List D} {K : D → Prop} (hd : ds = [sl_sl_iN a0, sl_iN a1, iN a2]) (h : ∀ r, A r = some q → K (.tup [iN r.1, iN r.2])) (hF : (f25 N a0 a1 a2).bind A = some q) : ∃ d, G25 ds d ∧ K d := by
  obtain ⟨r, hr, hA⟩ := bind_some hF
  exact ⟨_, ⟨N, a0, a1, a2, r, hd, hr, rfl⟩, h r hA⟩
set_option maxRecDepth 20000 in
set_option maxHeartbeats 4000000 in
theorem P25 : PureOK Try.prog 25 G25 := by
  refine pure_of_vc (c := mkCtx tyTree [(65, true, lendPg [[1], [1], [0]] G65), (64, true, lendPg [[0], [0], [0]] G64), (63, true, lendPg [[1], [1]] G63)]) rfl tyOK (ctx_lend (callable Try.func65 rfl rfl) P65 (ctx_lend (callable Try.func64 rfl rfl) P64 (ctx_lend (callable Try.func63 rfl rfl) P63 (ctx_nil)))) [[0], [0]] 3 Try.func25 rfl rfl (by decide) (by kernel_rfl) ?_
  rintro ds d ⟨N, a0, a1, a2, r, rfl, hF, rfl⟩ hok
  clear hok
  refine ⟨rfl, ?_⟩
  show vc _ _ _ _ ⟨[(0, .dat (sl_sl_iN a0)), (1, .dat (sl_iN a1)), (2, .dat (iN a2))], []⟩ _
  unfold f25 at hF
  repeat' (first
    | ((with_reducible first | refine q0 _ _ ?_ | refine q1 _ _ _ _ ?_ | refine q2 _ _ _ ?_); clear Q q0 q1 q2)
    | ((with_reducible first | refine seq_op ?hx (fun Q q0 q1 q2 => ?_)); (case hx => exact rfl); conv => whnf)
    | ((with_reducible refine cond_id ?_); (first | ((refine condKT rfl ?hy ?_); (case hy => first | assumption | exact notT (by assumption) | exact rfl)) | ((refine condKF rfl ?hy ?_); (case hy => first | assumption | exact notF (by assumption) | exact rfl)) | (revert hF; (with_reducible refine condF ?hx ?_ ?_); (case hx => exact rfl); all_goals (intro hc hF))))
    | ((with_reducible refine seq_nil ?_); (first | ((with_reducible refine hR _ ?_); clear R hR) | ((with_reducible refine hL _ ?_); clear L hL)))
    | ((with_reducible first | refine int_step ?_ | refine len_step ?_); conv => whnf)
    | (with_reducible first | refine vc_block ?_ | refine vc_skip ?_ | refine vc_ret ?_ | refine vc_exit ?_ | refine vc_region (fun R hR => ?_) | refine k_seq_ret ?_ | refine k_seq_exit ?_ | refine k_blk ?_ | refine k_blk_ret ?_ | refine k_blk_here ?_)
    | ((with_reducible refine vc_seqN [] ?hx ?_); (case hx => exact rfl))
    | (revert hF; (with_reducible refine G63.lend ?hx ?_); (case hx => exact rfl); intro v hF; conv => whnf)
    | (revert hF; (with_reducible refine G64.lend ?hx ?_); (case hx => exact rfl); intro v hF; conv => whnf)
    | (revert hF; (with_reducible refine G65.lend ?hx ?_); (case hx => exact rfl); intro v hF; conv => whnf)
    | ((with_reducible first | refine k_blk_out ?hx ?_ | refine vc_condT ?hx ?_); (case hx => exact rfl))
    | ((refine row_all ?hn ?_); (case hn => first | exact rfl | (simp; done) | (simp; omega)); conv => whnf)
    | ((with_reducible refine le_step ?hn ?_); (case hn => first | exact rfl | assumption | omega); conv => whnf)
    | ((refine ⟨?hx, ?_⟩); (case hx => exact ⟨rfl, Nat.le_of_ble_eq_true rfl, rfl⟩); conv => whnf)
    | ((with_reducible refine ex_step ?_); conv => whnf)
    | ((with_reducible refine both_T ?hx ?_); (case hx => first | exact rfl | assumption | exact notT (by assumption)); conv => whnf)
    | ((with_reducible refine both_F ?hx ?_); (case hx => first | exact rfl | assumption | exact notF (by assumption)); conv => whnf)
    | (revert hF; (with_reducible refine ite_step ?_ ?_) <;> (intro hc hF; conv => whnf))
    | ((with_reducible refine vc_condF ?hx ?_); (case hx => exact rfl))
    | (show retD _ _ _ _ _ _; conv => whnf)
    | ((refine ⟨?hx, trivial⟩); (case hx => (cases hF; exact rfl)))
    | ((refine ⟨?hx, ?_⟩); (case hx => decide); conv => whnf)
    | with_reducible refine k_seq ?_
    | (have hF : (none : Option _) = some _ := hF; cases hF))
end
end Go.Vc
namespace Go.Vc
open Go.Proofs
set_option linter.unusedVariables false
set_option linter.unnecessarySimpa false
set_option linter.unusedSimpArgs false
section
variable {c : Ctx} {p nid : Nat} {a b : Code} {st : St} {K : Ex → St → Prop}
/- f27: tusche/serial.Right -/
def f27 (N : Nat) (a0 : List (List Int)) (a1 : List Int) : Option (Int) :=
 (f63 N a0 a1).bind fun x1 =>
 bif decide (x1 = (0 : Int)) then ((f59 N a0 (0 : Int) a1).bind fun x2 =>
 bif decide (¬ x2 = (0 : Int)) then (some ((13 : Int)))
 else (some (x1)))
 else (some (x1))
def G27 (ds : List D) (d : D) : Prop := ∃ (N : Nat) (a0 : List (List Int)) (a1 : List Int) (r : Int), ds = [sl_sl_iN a0, sl_iN a1] ∧ f27 N a0 a1 = some r ∧ d = iN r
theorem G27.lend {N : Nat} {a0 : List (List Int)} {a1 : List Int} {ρ : Type} {A : Int → Option ρ} {q : ρ} {ds : List D} {K : D → Prop} (hd : ds = [sl_sl_iN a0, sl_iN a1]) (h : ∀ r, A r = some q → K (iN r)) (hF : (f27 N a0 a1).bind A = some q) : ∃ d, (G27 ds d ∧ d.flatB = true) ∧ K d := by
  obtain ⟨r, hr, hA⟩ := bind_some hF
  exact ⟨_, ⟨⟨N, a0, a1, r, hd, hr, rfl⟩, rfl⟩, h r hA⟩
theorem G27.step {N : Nat} {a0 : List (List Int)} {a1 : List Int} {ρ : Type} {A : Int → Option ρ} {q : ρ} {ds : List D} {K : D → Prop} (hd : ds = [sl_sl_iN a0, sl_iN a1]) (h : ∀ r, A r = some q → K (iN r)) (hF : (f27 N a0 a1).bind A = some q) : ∃ d, G27 ds d ∧ K d := by
  obtain ⟨r, hr, hA⟩ := bind_some hF
  exact ⟨_, ⟨N, a0, a1, r, hd, hr, rfl⟩, h r hA⟩
set_option maxRecDepth 20000 in
set_option maxHeartbeats 4000000 in
theorem P27 : PureOK Try.prog 27 G27 := by
  refine pure_of_vc (c := mkCtx tyTree [(63, true, lendPg [[1], [1]] G63), (59, true, lendPg [[1], [0], [1]] G59)]) rfl tyOK (ctx_lend (callable Try.func63 rfl rfl) P63 (ctx_lend (callable Try.func59 rfl rfl) P59 (ctx_nil))) [[0]] 2 Try.func27 rfl rfl (by decide) (by kernel_rfl) ?_
  rintro ds d ⟨N, a0, a1, r, rfl, hF, rfl⟩ hok
  clear hok
  refine ⟨rfl, ?_⟩
  show vc _ _ _ _ ⟨[(0, .dat (sl_sl_iN a0)), (1, .dat (sl_iN a1))], []⟩ _
  unfold f27 at hF
  repeat' (first
    | ((with_reducible first | refine q0 _ _ ?_ | refine q1 _ _ _ _ ?_ | refine q2 _ _ _ ?_); clear Q q0 q1 q2)
    | ((with_reducible first | refine seq_op ?hx (fun Q q0 q1 q2 => ?_)); (case hx => exact rfl); conv => whnf)
    | ((with_reducible first | refine seq_off ?hx ?_ | refine seq_off0 ?hx ?_ | refine k_blk_out ?hx ?_ | refine vc_condT ?hx ?_); (case hx => exact rfl))
    | ((with_reducible refine seq_id ?_); (first | ((first | refine seq_opK rfl ?hy (fun Q q0 q1 q2 => ?_) | refine seq_opK0 rfl ?hy (fun Q q0 q1 q2 => ?_)); (case hy => first | assumption | exact notT (by assumption) | exact rfl); conv => whnf) | ((first | refine seq_offK rfl ?hy ?_ | refine seq_offK0 rfl ?hy ?_); (case hy => first | assumption | exact notF (by assumption) | exact rfl)) | (revert hF; (with_reducible first | refine seq_opF ?hx ?_ ?_ | refine seq_opF0 ?hx ?_ ?_); (case hx => exact rfl); (intro hc hF Q q0 q1 q2; conv => whnf); rotate_left; (intro hc hF); rotate_right) | (revert hF; (with_reducible first | refine seq_opN ?hx ?_ ?_ | refine seq_opN0 ?hx ?_ ?_); (case hx => exact rfl); (intro hc hF); rotate_left; (intro hc hF Q q0 q1 q2; conv => whnf); rotate_right)))
    | ((with_reducible refine cond_id ?_); (first | ((refine condKT rfl ?hy ?_); (case hy => first | assumption | exact notT (by assumption) | exact rfl)) | ((refine condKF rfl ?hy ?_); (case hy => first | assumption | exact notF (by assumption) | exact rfl)) | (revert hF; (with_reducible refine condF ?hx ?_ ?_); (case hx => exact rfl); all_goals (intro hc hF))))
    | ((with_reducible refine seq_nil ?_); (first | ((with_reducible refine hR _ ?_); clear R hR) | ((with_reducible refine hL _ ?_); clear L hL)))
    | ((with_reducible first | refine int_step ?_); conv => whnf)
    | (with_reducible first | refine vc_block ?_ | refine vc_skip ?_ | refine vc_ret ?_ | refine vc_exit ?_ | refine vc_region (fun R hR => ?_) | refine k_seq_ret ?_ | refine k_seq_exit ?_ | refine k_blk ?_ | refine k_blk_ret ?_ | refine k_blk_here ?_)
    | ((with_reducible refine vc_seqN [] ?hx ?_); (case hx => exact rfl))
    | (revert hF; (with_reducible refine G59.lend ?hx ?_); (case hx => exact rfl); intro v hF; conv => whnf)
    | (revert hF; (with_reducible refine G63.lend ?hx ?_); (case hx => exact rfl); intro v hF; conv => whnf)
    | ((refine row_all ?hn ?_); (case hn => first | exact rfl | (simp; done) | (simp; omega)); conv => whnf)
    | ((with_reducible refine le_step ?hn ?_); (case hn => first | exact rfl | assumption | omega); conv => whnf)
    | ((refine ⟨?hx, ?_⟩); (case hx => exact ⟨rfl, Nat.le_of_ble_eq_true rfl, rfl⟩); conv => whnf)
    | ((with_reducible refine ex_step ?_); conv => whnf)
    | ((with_reducible refine both_T ?hx ?_); (case hx => first | exact rfl | assumption | exact notT (by assumption)); conv => whnf)
    | ((with_reducible refine both_F ?hx ?_); (case hx => first | exact rfl | assumption | exact notF (by assumption)); conv => whnf)
    | (revert hF; (with_reducible refine ite_step ?_ ?_) <;> (intro hc hF; conv => whnf))
    | ((with_reducible refine vc_condF ?hx ?_); (case hx => exact rfl))
    | (show retD _ _ _ _ _ _; conv => whnf)
    | ((refine ⟨?hx, trivial⟩); (case hx => (cases hF; exact rfl)))
    | ((refine ⟨?hx, ?_⟩); (case hx => decide); conv => whnf)
    | with_reducible refine k_seq ?_
    | (have hF : (none : Option _) = some _ := hF; cases hF))
end
end Go.Vc
namespace Go.Vc
open Go.Proofs
set_option linter.unusedVariables false
set_option linter.unnecessarySimpa false
set_option linter.unusedSimpArgs false
section
variable {c : Ctx} {p nid : Nat} {a b : Code} {st : St} {K : Ex → St → Prop}
/- f68: tusche/serial.wrong -/
def f68 (N : Nat) (a0 : List (List Int)) (a1 : List Int) : Option (Int) :=
 (f63 N a0 a1).bind fun x1 =>
 bif decide (x1 = (0 : Int)) then ((f59 N a0 (0 : Int) a1).bind fun x2 =>
 bif decide (x2 = (0 : Int)) then (some ((20 : Int)))
 else (some (x1)))
 else (some (x1))
def G68 (ds : List D) (d : D) : Prop := ∃ (N : Nat) (a0 : List (List Int)) (a1 : List Int) (r : Int), ds = [sl_sl_iN a0, sl_iN a1] ∧ f68 N a0 a1 = some r ∧ d = iN r
theorem G68.lend {N : Nat} {a0 : List (List Int)} {a1 : List Int} {ρ : Type} {A : Int → Option ρ} {q : ρ} {ds : List D} {K : D → Prop} (hd : ds = [sl_sl_iN a0, sl_iN a1]) (h : ∀ r, A r = some q → K (iN r)) (hF : (f68 N a0 a1).bind A = some q) : ∃ d, (G68 ds d ∧ d.flatB = true) ∧ K d := by
  obtain ⟨r, hr, hA⟩ := bind_some hF
  exact ⟨_, ⟨⟨N, a0, a1, r, hd, hr, rfl⟩, rfl⟩, h r hA⟩
theorem G68.step {N : Nat} {a0 : List (List Int)} {a1 : List Int} {ρ : Type} {A : Int → Option ρ} {q : ρ} {ds : List D} {K : D → Prop} (hd : ds = [sl_sl_iN a0, sl_iN a1]) (h : ∀ r, A r = some q → K (iN r)) (hF : (f68 N a0 a1).bind A = some q) : ∃ d, G68 ds d ∧ K d := by
  obtain ⟨r, hr, hA⟩ := bind_some hF
  exact ⟨_, ⟨N, a0, a1, r, hd, hr, rfl⟩, h r hA⟩
set_option maxRecDepth 20000 in
set_option maxHeartbeats 4000000 in
theorem P68 : PureOK Try.prog 68 G68 := by
  refine pure_of_vc (c := mkCtx tyTree [(63, true, lendPg [[1], [1]] G63), (59, true, lendPg [[1], [0], [1]] G59)]) rfl tyOK (ctx_lend (callable Try.func63 rfl rfl) P63 (ctx_lend (callable Try.func59 rfl rfl) P59 (ctx_nil))) [[0]] 2 Try.func68 rfl rfl (by decide) (by kernel_rfl) ?_
  rintro ds d ⟨N, a0, a1, r, rfl, hF, rfl⟩ hok
  clear hok
  refine ⟨rfl, ?_⟩
  show vc _ _ _ _ ⟨[(0, .dat (sl_sl_iN a0)), (1, .dat (sl_iN a1))], []⟩ _
  unfold f68 at hF
  repeat' (first
    | ((with_reducible first | refine q0 _ _ ?_ | refine q1 _ _ _ _ ?_ | refine q2 _ _ _ ?_); clear Q q0 q1 q2)
    | ((with_reducible first | refine seq_op ?hx (fun Q q0 q1 q2 => ?_)); (case hx => exact rfl); conv => whnf)
    | ((with_reducible first | refine seq_off ?hx ?_ | refine seq_off0 ?hx ?_ | refine k_blk_out ?hx ?_ | refine vc_condT ?hx ?_); (case hx => exact rfl))
    | ((with_reducible refine seq_id ?_); (first | ((first | refine seq_opK rfl ?hy (fun Q q0 q1 q2 => ?_) | refine seq_opK0 rfl ?hy (fun Q q0 q1 q2 => ?_)); (case hy => first | assumption | exact notT (by assumption) | exact rfl); conv => whnf) | ((first | refine seq_offK rfl ?hy ?_ | refine seq_offK0 rfl ?hy ?_); (case hy => first | assumption | exact notF (by assumption) | exact rfl)) | (revert hF; (with_reducible first | refine seq_opF ?hx ?_ ?_ | refine seq_opF0 ?hx ?_ ?_); (case hx => exact rfl); (intro hc hF Q q0 q1 q2; conv => whnf); rotate_left; (intro hc hF); rotate_right) | (revert hF; (with_reducible first | refine seq_opN ?hx ?_ ?_ | refine seq_opN0 ?hx ?_ ?_); (case hx => exact rfl); (intro hc hF); rotate_left; (intro hc hF Q q0 q1 q2; conv => whnf); rotate_right)))
    | ((with_reducible refine cond_id ?_); (first | ((refine condKT rfl ?hy ?_); (case hy => first | assumption | exact notT (by assumption) | exact rfl)) | ((refine condKF rfl ?hy ?_); (case hy => first | assumption | exact notF (by assumption) | exact rfl)) | (revert hF; (with_reducible refine condF ?hx ?_ ?_); (case hx => exact rfl); all_goals (intro hc hF))))
    | ((with_reducible refine seq_nil ?_); (first | ((with_reducible refine hR _ ?_); clear R hR) | ((with_reducible refine hL _ ?_); clear L hL)))
    | ((with_reducible first | refine int_step ?_); conv => whnf)
    | (with_reducible first | refine vc_block ?_ | refine vc_skip ?_ | refine vc_ret ?_ | refine vc_exit ?_ | refine vc_region (fun R hR => ?_) | refine k_seq_ret ?_ | refine k_seq_exit ?_ | refine k_blk ?_ | refine k_blk_ret ?_ | refine k_blk_here ?_)
    | ((with_reducible refine vc_seqN [] ?hx ?_); (case hx => exact rfl))
    | (revert hF; (with_reducible refine G59.lend ?hx ?_); (case hx => exact rfl); intro v hF; conv => whnf)
    | (revert hF; (with_reducible refine G63.lend ?hx ?_); (case hx => exact rfl); intro v hF; conv => whnf)
    | ((refine row_all ?hn ?_); (case hn => first | exact rfl | (simp; done) | (simp; omega)); conv => whnf)
    | ((with_reducible refine le_step ?hn ?_); (case hn => first | exact rfl | assumption | omega); conv => whnf)
    | ((refine ⟨?hx, ?_⟩); (case hx => exact ⟨rfl, Nat.le_of_ble_eq_true rfl, rfl⟩); conv => whnf)
    | ((with_reducible refine ex_step ?_); conv => whnf)
    | ((with_reducible refine both_T ?hx ?_); (case hx => first | exact rfl | assumption | exact notT (by assumption)); conv => whnf)
    | ((with_reducible refine both_F ?hx ?_); (case hx => first | exact rfl | assumption | exact notF (by assumption)); conv => whnf)
    | (revert hF; (with_reducible refine ite_step ?_ ?_) <;> (intro hc hF; conv => whnf))
    | ((with_reducible refine vc_condF ?hx ?_); (case hx => exact rfl))
    | (show retD _ _ _ _ _ _; conv => whnf)
    | ((refine ⟨?hx, trivial⟩); (case hx => (cases hF; exact rfl)))
    | ((refine ⟨?hx, ?_⟩); (case hx => decide); conv => whnf)
    | with_reducible refine k_seq ?_
    | (have hF : (none : Option _) = some _ := hF; cases hF))
end
end Go.Vc

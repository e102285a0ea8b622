/-
  A library for proofs about Go functions by symbolic evaluation, and plain Lean functions that the walked Go functions compute (written by a program of this claim).
-/
import Derived.Test.YtifcnocpjdmaiaaVc2
import Derived.Test.YtifcnocpjdmaiaaProg
namespace Go.Vc
open Go.Proofs
set_option maxRecDepth 20000
def tyTree : Tree (Option TI) :=
  (.node (.node (.node (.node (.node (.node (.node (.node .leaf (some ⟨.ptr, 1, 8, false, [0], [.pointer none]⟩) .leaf) (some ⟨.fn, 1, 8, false, [0], [.nilFunc]⟩) (.node .leaf (some ⟨.fn, 1, 8, false, [0], [.nilFunc]⟩) .leaf)) (some ⟨(.slice 45 2 true), 1, 24, false, [2], [.slice none 0 0]⟩) (.node (.node .leaf (some ⟨(.arr 13 1 false), 13, 104, true, [0, 0, 0, 0, 0, 0, 0, 0, 0, 0, 0, 0, 0], [.int .i64 0, .int .i64 0, .int .i64 0, .int .i64 0, .int .i64 0, .int .i64 0, .int .i64 0, .int .i64 0, .int .i64 0, .int .i64 0, .int .i64 0, .int .i64 0, .int .i64 0]⟩) .leaf) (some ⟨.fn, 1, 8, false, [0], [.nilFunc]⟩) (.node .leaf (some ⟨(.arr 13 13 true), 169, 1352, true, (List.replicate 169 0), (List.replicate 169 (.int .i64 0))⟩) .leaf))) (some ⟨.ptr, 1, 8, false, [0], [.pointer none]⟩) (.node (.node (.node .leaf (some ⟨.fn, 1, 8, false, [0], [.nilFunc]⟩) .leaf) (some ⟨(.slice 80 4 true), 1, 24, false, [4], [.slice none 0 0]⟩) (.node .leaf (some ⟨(.arr 2 1 false), 2, 16, true, [0, 0], [.int .i64 0, .int .i64 0]⟩) .leaf)) (some ⟨(.int .i64), 1, 8, false, [0], [.int .i64 0]⟩) (.node (.node .leaf (some ⟨(.slice 3 1 false), 1, 24, false, [1], [.slice none 0 0]⟩) .leaf) (some ⟨(.struct [(0, 1, false), (1, 1, false), (2, 1, false)]), 3, 32, true, [0, 0, 4], [.int .u8 0, .int .u8 0, .slice none 0 0]⟩) (.node .leaf none .leaf)))) none (.node (.node (.node (.node .leaf (some ⟨.fn, 1, 8, false, [0], [.nilFunc]⟩) .leaf) (some ⟨(.struct [(0, 1, false), (1, 1, false), (2, 1, false)]), 3, 32, true, [0, 0, 4], [.int .u8 0, .int .u8 0, .slice none 0 0]⟩) (.node .leaf (some ⟨.fn, 1, 8, false, [0], [.nilFunc]⟩) .leaf)) none (.node (.node .leaf (some ⟨.fn, 1, 8, false, [0], [.nilFunc]⟩) .leaf) (some ⟨.fn, 1, 8, false, [0], [.nilFunc]⟩) (.node .leaf none .leaf))) (some ⟨.ptr, 1, 8, false, [0], [.pointer none]⟩) (.node (.node (.node .leaf (some ⟨(.slice 96 5 true), 1, 24, false, [5], [.slice none 0 0]⟩) .leaf) (some ⟨.fn, 1, 8, false, [0], [.nilFunc]⟩) (.node .leaf none .leaf)) (some ⟨.fn, 1, 8, false, [0], [.nilFunc]⟩) (.node (.node .leaf (some ⟨(.arr 13 65 true), 845, 6760, true, (List.replicate 845 0), (List.replicate 169 [(.int .i64 0), (.int .i64 0), (.bool false), (.bool false), (.int .i64 0)]).flatten⟩) .leaf) none (.node .leaf (some ⟨(.arr 13 65 true), 845, 6760, true, (List.replicate 845 0), (List.replicate 169 [(.int .i64 0), (.int .i64 0), (.bool false), (.bool false), (.int .i64 0)]).flatten⟩) .leaf))))) (some ⟨(.int .i64), 1, 8, false, [0], [.int .i64 0]⟩) (.node (.node (.node (.node (.node .leaf (some ⟨.ptr, 1, 8, false, [0], [.pointer none]⟩) .leaf) (some ⟨.fn, 1, 8, false, [0], [.nilFunc]⟩) (.node .leaf (some ⟨.fn, 1, 8, false, [0], [.nilFunc]⟩) .leaf)) (some ⟨(.slice 44 2 true), 1, 24, false, [2], [.slice none 0 0]⟩) (.node (.node .leaf (some ⟨.fn, 1, 8, false, [0], [.nilFunc]⟩) .leaf) (some ⟨.fn, 1, 8, false, [0], [.nilFunc]⟩) (.node .leaf (some ⟨.fn, 1, 8, false, [0], [.nilFunc]⟩) .leaf))) (some ⟨.ptr, 1, 8, false, [0], [.pointer none]⟩) (.node (.node (.node .leaf (some ⟨.fn, 1, 8, false, [0], [.nilFunc]⟩) .leaf) none (.node .leaf (some ⟨.fn, 1, 8, false, [0], [.nilFunc]⟩) .leaf)) none (.node (.node .leaf (some ⟨.fn, 1, 8, false, [0], [.nilFunc]⟩) .leaf) (some ⟨.fn, 1, 8, false, [0], [.nilFunc]⟩) (.node .leaf none .leaf)))) none (.node (.node (.node (.node .leaf none .leaf) (some ⟨.fn, 1, 8, false, [0], [.nilFunc]⟩) (.node .leaf (some ⟨(.arr 0 1 false), 0, 0, true, [], []⟩) .leaf)) (some ⟨.fn, 1, 8, false, [0], [.nilFunc]⟩) (.node (.node .leaf none .leaf) (some ⟨(.slice 4 1 false), 1, 24, false, [1], [.slice none 0 0]⟩) (.node .leaf none .leaf))) none (.node (.node (.node .leaf (some ⟨.fn, 1, 8, false, [0], [.nilFunc]⟩) .leaf) (some ⟨(.slice 78 2 true), 1, 24, false, [2], [.slice none 0 0]⟩) (.node .leaf (some ⟨(.int .u32), 1, 4, false, [0], [.int .u32 0]⟩) .leaf)) none (.node (.node .leaf none .leaf) (some ⟨(.arr 2 1 false), 2, 2, true, [0, 0], [.int .u8 0, .int .u8 0]⟩) (.node .leaf none .leaf)))))) (some ⟨.fn, 1, 8, false, [0], [.nilFunc]⟩) (.node (.node (.node (.node (.node (.node .leaf (some ⟨.fn, 1, 8, false, [0], [.nilFunc]⟩) .leaf) (some ⟨.fn, 1, 8, false, [0], [.nilFunc]⟩) (.node .leaf (some ⟨.ptr, 1, 8, false, [0], [.pointer none]⟩) .leaf)) (some ⟨.fn, 1, 8, false, [0], [.nilFunc]⟩) (.node (.node .leaf none .leaf) (some ⟨(.arr 4 1 false), 4, 4, true, [0, 0, 0, 0], [.int .u8 0, .int .u8 0, .int .u8 0, .int .u8 0]⟩) (.node .leaf none .leaf))) none (.node (.node (.node .leaf (some ⟨(.struct [(0, 1, false), (1, 1, false), (2, 1, false), (3, 1, false), (4, 1, false), (5, 1, false), (6, 1, false), (7, 1, false), (8, 1, false), (9, 1, false), (10, 1, false)]), 11, 48, true, [0, 0, 0, 0, 0, 0, 0, 0, 0, 0, 0], [.int .u64 0, .int .u64 0, .int .u32 0, .int .u8 0, .int .u8 0, .int .u8 0, .int .u8 0, .nilFunc, .pointer none, .int .i32 0, .int .i32 0]⟩) .leaf) (some ⟨.fn, 1, 8, false, [0], [.nilFunc]⟩) (.node .leaf none .leaf)) (some ⟨.fn, 1, 8, false, [0], [.nilFunc]⟩) (.node (.node .leaf none .leaf) (some ⟨(.slice 90 3 true), 1, 24, false, [3], [.slice none 0 0]⟩) .leaf))) (some ⟨.str, 1, 16, false, [0], [.string ⟨#[]⟩]⟩) (.node (.node (.node .leaf (some ⟨(.slice 90 3 true), 1, 24, false, [3], [.slice none 0 0]⟩) .leaf) (some ⟨(.slice 106 3 true), 1, 24, false, [3], [.slice none 0 0]⟩) (.node .leaf (some ⟨.fn, 1, 8, false, [0], [.nilFunc]⟩) .leaf)) (some ⟨.iface, 1, 16, false, [0], [.nilIface]⟩) (.node (.node .leaf (some ⟨.fn, 1, 8, false, [0], [.nilFunc]⟩) .leaf) (some ⟨.fn, 1, 8, false, [0], [.nilFunc]⟩) (.node .leaf (some ⟨(.mp 132 3), 1, 8, false, [0], [.map none]⟩) .leaf)))) (some ⟨.bool, 1, 1, false, [0], [.bool false]⟩) (.node (.node (.node (.node .leaf (some ⟨(.struct [(0, 1, false), (1, 1, false), (2, 1, false)]), 3, 24, true, [0, 0, 0], [.int .i64 0, .int .i64 0, .int .i64 0]⟩) .leaf) (some ⟨(.struct [(0, 1, false), (1, 1, false)]), 2, 16, true, [0, 0], [.bool false, .int .i64 0]⟩) (.node .leaf (some ⟨(.struct [(0, 1, false), (1, 1, false), (2, 1, false)]), 3, 24, true, [0, 0, 0], [.int .i64 0, .int .i64 0, .int .i64 0]⟩) .leaf)) (some ⟨(.int .i32), 1, 4, false, [0], [.int .i32 0]⟩) (.node (.node .leaf (some ⟨.fn, 1, 8, false, [0], [.nilFunc]⟩) .leaf) (some ⟨(.struct [(0, 1, false), (1, 1, false)]), 2, 16, true, [0, 0], [.bool false, .int .i64 0]⟩) (.node .leaf (some ⟨(.arr 3 1 false), 3, 3, true, [0, 0, 0], [.int .u8 0, .int .u8 0, .int .u8 0]⟩) .leaf))) none (.node (.node (.node .leaf (some ⟨.fn, 1, 8, false, [0], [.nilFunc]⟩) .leaf) (some ⟨(.struct [(0, 1, false), (1, 1, false)]), 2, 16, true, [0, 0], [.bool false, .int .i64 0]⟩) (.node .leaf (some ⟨.fn, 1, 8, false, [0], [.nilFunc]⟩) .leaf)) (some ⟨(.slice 50 4 true), 1, 24, false, [4], [.slice none 0 0]⟩) (.node (.node .leaf (some ⟨.fn, 1, 8, false, [0], [.nilFunc]⟩) .leaf) (some ⟨.fn, 1, 8, false, [0], [.nilFunc]⟩) (.node .leaf (some ⟨.fn, 1, 8, false, [0], [.nilFunc]⟩) .leaf)))))) none (.node (.node (.node (.node (.node (.node .leaf (some ⟨(.struct [(0, 4, true), (4, 1, false)]), 5, 56, true, [0, 0, 0, 0, 4], [.int .i64 0, .int .i64 0, .int .i64 0, .int .i64 0, .slice none 0 0]⟩) .leaf) (some ⟨.fn, 1, 8, false, [0], [.nilFunc]⟩) (.node .leaf (some ⟨(.struct [(0, 4, true), (4, 1, false)]), 5, 56, true, [0, 0, 0, 0, 4], [.int .i64 0, .int .i64 0, .int .i64 0, .int .i64 0, .slice none 0 0]⟩) .leaf)) (some ⟨(.struct [(0, 1, false), (1, 1, false), (2, 1, false)]), 3, 40, true, [0, 0, 4], [.int .i64 0, .int .i64 0, .slice none 0 0]⟩) (.node (.node .leaf (some ⟨.fn, 1, 8, false, [0], [.nilFunc]⟩) .leaf) (some ⟨.fn, 1, 8, false, [0], [.nilFunc]⟩) (.node .leaf (some ⟨.fn, 1, 8, false, [0], [.nilFunc]⟩) .leaf))) none (.node (.node (.node .leaf (some ⟨.fn, 1, 8, false, [0], [.nilFunc]⟩) .leaf) (some ⟨(.struct [(0, 1, false), (1, 1, false), (2, 1, false), (3, 1, false)]), 4, 32, true, [0, 0, 0, 0], [.int .i64 0, .int .i64 0, .int .i64 0, .int .i64 0]⟩) (.node .leaf (some ⟨.fn, 1, 8, false, [0], [.nilFunc]⟩) .leaf)) (some ⟨(.struct [(0, 1, false), (1, 1, false), (2, 1, false)]), 3, 40, true, [0, 0, 4], [.int .i64 0, .int .i64 0, .slice none 0 0]⟩) (.node (.node .leaf (some ⟨.fn, 1, 8, false, [0], [.nilFunc]⟩) .leaf) (some ⟨(.struct [(0, 1, false), (1, 1, false), (2, 1, false), (3, 1, false)]), 4, 32, true, [0, 0, 0, 0], [.int .i64 0, .int .i64 0, .int .i64 0, .int .i64 0]⟩) (.node .leaf none .leaf)))) (some ⟨(.int .u8), 1, 1, false, [0], [.int .u8 0]⟩) (.node (.node (.node (.node .leaf (some ⟨.fn, 1, 8, false, [0], [.nilFunc]⟩) .leaf) none (.node .leaf (some ⟨.fn, 1, 8, false, [0], [.nilFunc]⟩) .leaf)) (some ⟨(.slice 88 3 true), 1, 24, false, [3], [.slice none 0 0]⟩) (.node (.node .leaf (some ⟨.fn, 1, 8, false, [0], [.nilFunc]⟩) .leaf) (some ⟨.fn, 1, 8, false, [0], [.nilFunc]⟩) (.node .leaf (some ⟨(.struct [(0, 1, false), (1, 1, false), (2, 1, false)]), 3, 24, true, [0, 0, 0], [.int .i64 0, .int .i64 0, .int .i64 0]⟩) .leaf))) (some ⟨(.int .u64), 1, 8, false, [0], [.int .u64 0]⟩) (.node (.node (.node .leaf (some ⟨.fn, 1, 8, false, [0], [.nilFunc]⟩) .leaf) (some ⟨.fn, 1, 8, false, [0], [.nilFunc]⟩) (.node .leaf (some ⟨.fn, 1, 8, false, [0], [.nilFunc]⟩) .leaf)) (some ⟨.fn, 1, 8, false, [0], [.nilFunc]⟩) (.node (.node .leaf (some ⟨.fn, 1, 8, false, [0], [.nilFunc]⟩) .leaf) (some ⟨.fn, 1, 8, false, [0], [.nilFunc]⟩) (.node .leaf (some ⟨.fn, 1, 8, false, [0], [.nilFunc]⟩) .leaf))))) (some ⟨(.int .i64), 1, 8, false, [0], [.int .i64 0]⟩) (.node (.node (.node (.node (.node .leaf (some ⟨.fn, 1, 8, false, [0], [.nilFunc]⟩) .leaf) (some ⟨.fn, 1, 8, false, [0], [.nilFunc]⟩) (.node .leaf none .leaf)) (some ⟨(.slice 57 4 true), 1, 24, false, [4], [.slice none 0 0]⟩) (.node (.node .leaf (some ⟨.fn, 1, 8, false, [0], [.nilFunc]⟩) .leaf) (some ⟨.fn, 1, 8, false, [0], [.nilFunc]⟩) (.node .leaf (some ⟨.fn, 1, 8, false, [0], [.nilFunc]⟩) .leaf))) none (.node (.node (.node .leaf none .leaf) (some ⟨(.struct [(0, 1, false), (1, 1, false), (2, 1, false), (3, 1, false)]), 4, 32, true, [0, 0, 0, 0], [.int .i64 0, .int .i64 0, .int .i64 0, .int .i64 0]⟩) (.node .leaf (some ⟨.fn, 1, 8, false, [0], [.nilFunc]⟩) .leaf)) (some ⟨(.struct [(0, 1, false), (1, 1, false), (2, 1, false)]), 3, 40, true, [0, 0, 4], [.int .i64 0, .int .i64 0, .slice none 0 0]⟩) (.node (.node .leaf (some ⟨.fn, 1, 8, false, [0], [.nilFunc]⟩) .leaf) (some ⟨.fn, 1, 8, false, [0], [.nilFunc]⟩) (.node .leaf (some ⟨.fn, 1, 8, false, [0], [.nilFunc]⟩) .leaf)))) none (.node (.node (.node (.node .leaf (some ⟨.fn, 1, 8, false, [0], [.nilFunc]⟩) .leaf) (some ⟨.fn, 1, 8, false, [0], [.nilFunc]⟩) (.node .leaf none .leaf)) (some ⟨(.struct [(0, 1, false), (1, 1, false), (2, 1, false)]), 3, 40, true, [0, 0, 4], [.int .i64 0, .int .i64 0, .slice none 0 0]⟩) (.node (.node .leaf (some ⟨.fn, 1, 8, false, [0], [.nilFunc]⟩) .leaf) none (.node .leaf (some ⟨.fn, 1, 8, false, [0], [.nilFunc]⟩) .leaf))) none (.node (.node (.node .leaf (some ⟨.fn, 1, 8, false, [0], [.nilFunc]⟩) .leaf) (some ⟨.fn, 1, 8, false, [0], [.nilFunc]⟩) (.node .leaf (some ⟨(.struct [(0, 1, false), (1, 1, false), (2, 1, false), (3, 2, true)]), 5, 40, true, [0, 0, 0, 0, 0], [.int .i64 0, .int .i64 0, .bool false, .bool false, .int .i64 0]⟩) .leaf)) (some ⟨.fn, 1, 8, false, [0], [.nilFunc]⟩) (.node (.node .leaf (some ⟨(.struct [(0, 1, false), (1, 1, false), (2, 1, false), (3, 2, true)]), 5, 40, true, [0, 0, 0, 0, 0], [.int .i64 0, .int .i64 0, .bool false, .bool false, .int .i64 0]⟩) .leaf) none (.node .leaf (some ⟨(.arr 13 5 true), 65, 520, true, (List.replicate 65 0), (List.replicate 13 [(.int .i64 0), (.int .i64 0), (.bool false), (.bool false), (.int .i64 0)]).flatten⟩) .leaf)))))))
theorem tyOK : TyOK Try.prog tyTree := ty_ok (by kernel_rfl)
end Go.Vc
namespace Go.Vc
open Go.Proofs
set_option linter.unusedVariables false
set_option linter.unnecessarySimpa false
set_option linter.unusedSimpArgs false
structure Label where
  X : Int
  Y : Int
  W : Int
  H : Int
  deriving DecidableEq, Inhabited
def Label.d (x : Label) : D := .agg [iN x.X, iN x.Y, iN x.W, iN x.H]
def sl_Label (l : List Label) : D := .sl 4 (l.map Label.d)
structure Layout where
  W : Int
  H : Int
  Labels : List Label
  deriving DecidableEq, Inhabited
def Layout.d (x : Layout) : D := .agg [iN x.W, iN x.H, sl_Label x.Labels]
structure Kind where
  W : Int
  H : Int
  Value : Int
  deriving DecidableEq, Inhabited
def Kind.d (x : Kind) : D := .agg [iN x.W, iN x.H, iN x.Value]
structure Cut where
  Up : Bool
  At : Int
  deriving DecidableEq, Inhabited
def Cut.d (x : Cut) : D := .agg [bN x.Up, iN x.At]
structure A4u8N where
  e0 : Int
  e1 : Int
  e2 : Int
  e3 : Int
  deriving DecidableEq, Inhabited
def A4u8N.d (x : A4u8N) : D := .agg [u8N x.e0, u8N x.e1, u8N x.e2, u8N x.e3]
def sl_A4u8N (l : List A4u8N) : D := .sl 4 (l.map A4u8N.d)
structure Page where
  W : Int
  H : Int
  Labels : List A4u8N
  deriving DecidableEq, Inhabited
def Page.d (x : Page) : D := .agg [u8N x.W, u8N x.H, sl_A4u8N x.Labels]
structure A2u8N where
  e0 : Int
  e1 : Int
  deriving DecidableEq, Inhabited
def A2u8N.d (x : A2u8N) : D := .agg [u8N x.e0, u8N x.e1]
structure A3u8N where
  e0 : Int
  e1 : Int
  e2 : Int
  deriving DecidableEq, Inhabited
def A3u8N.d (x : A3u8N) : D := .agg [u8N x.e0, u8N x.e1, u8N x.e2]
structure A2iN where
  e0 : Int
  e1 : Int
  deriving DecidableEq, Inhabited
def A2iN.d (x : A2iN) : D := .agg [iN x.e0, iN x.e1]
theorem A2iN.d_inj : ∀ a b : A2iN, a.d = b.d → a = b := by
  rintro ⟨a0, a1⟩ ⟨b0, b1⟩ h
  simp only [A2iN.d, iN, u8N, bN, strN] at h
  cases h; rfl
structure Piece where
  Label_ : Label
  labels : List Label
  deriving DecidableEq, Inhabited
def Piece.d (x : Piece) : D := .agg [iN x.Label_.X, iN x.Label_.Y, iN x.Label_.W, iN x.Label_.H, sl_Label x.labels]
structure Choice where
  worth : Int
  labels : Int
  sold : Bool
  cut : Cut
  deriving DecidableEq, Inhabited
def Choice.d (x : Choice) : D := .agg [iN x.worth, iN x.labels, bN x.sold, bN x.cut.Up, iN x.cut.At]
def sl_Cut (l : List Cut) : D := .sl 2 (l.map Cut.d)
def sl_Kind (l : List Kind) : D := .sl 3 (l.map Kind.d)
def sl_A2u8N (l : List A2u8N) : D := .sl 2 (l.map A2u8N.d)
def sl_A3u8N (l : List A3u8N) : D := .sl 3 (l.map A3u8N.d)
def sl_iN (l : List Int) : D := .sl 1 (l.map iN)
end Go.Vc
namespace Go.Vc
open Go.Proofs
set_option linter.unusedVariables false
set_option linter.unnecessarySimpa false
set_option linter.unusedSimpArgs false
section
variable {c : Ctx} {p nid : Nat} {a b : Code} {st : St} {K : Ex → St → Prop}
/- f52: tusche/cut.between -/
def f52 (N : Nat) (a0 : Int) (a1 : Int) (a2 : Int) : Option (Bool) :=
 bif decide (a0 ≤ a1) then (some (decide (a1 ≤ a2)))
 else (some (false))
def G52 (ds : List D) (d : D) : Prop := ∃ (N : Nat) (a0 : Int) (a1 : Int) (a2 : Int) (r : Bool), ds = [iN a0, iN a1, iN a2] ∧ f52 N a0 a1 a2 = some r ∧ d = bN r
theorem G52.step {N : Nat} {a0 : Int} {a1 : Int} {a2 : Int} {ρ : Type} {A : Bool → Option ρ} {q : ρ} {ds : List D} {K : D → Prop} (hd : ds = [iN a0, iN a1, iN a2]) (h : ∀ r, A r = some q → K (bN r)) (hF : (f52 N a0 a1 a2).bind A = some q) : ∃ d, G52 ds d ∧ K d := by
  obtain ⟨r, hr, hA⟩ := bind_some hF
  exact ⟨_, ⟨N, a0, a1, a2, r, hd, hr, rfl⟩, h r hA⟩
set_option maxRecDepth 20000 in
set_option maxHeartbeats 4000000 in
theorem P52 : PureOK Try.prog 52 G52 := by
  refine pure_of_vc (c := mkCtx tyTree []) rfl tyOK (ctx_nil) [[0]] 3 Try.func52 rfl rfl (by decide) (by kernel_rfl) ?_
  rintro ds d ⟨N, a0, a1, a2, r, rfl, hF, rfl⟩ hok
  clear hok
  refine ⟨rfl, ?_⟩
  show vc _ _ _ _ ⟨[(0, .dat (iN a0)), (1, .dat (iN a1)), (2, .dat (iN a2))], []⟩ _
  unfold f52 at hF
  repeat' (first
    | ((with_reducible refine q0 _ _ ?_); clear Q q0 q1 q2)
    | ((with_reducible refine q1 _ _ _ _ ?_); clear Q q0 q1 q2)
    | ((with_reducible refine q2 _ _ _ ?_); clear Q q0 q1 q2)
    | ((with_reducible refine seq_op ?hx (fun Q q0 q1 q2 => ?_)); (case hx => exact rfl); conv => whnf)
    | ((with_reducible refine seq_off ?hx ?_); (case hx => exact rfl))
    | ((with_reducible refine seq_off0 ?hx ?_); (case hx => exact rfl))
    | ((with_reducible refine seq_id ?_); (first | ((refine seq_opK rfl ?hy (fun Q q0 q1 q2 => ?_)); (case hy => first | assumption | exact notT (by assumption) | exact rfl); conv => whnf) | ((refine seq_offK rfl ?hy ?_); (case hy => first | assumption | exact notF (by assumption) | exact rfl)) | ((refine seq_opK0 rfl ?hy (fun Q q0 q1 q2 => ?_)); (case hy => first | assumption | exact notT (by assumption) | exact rfl); conv => whnf) | ((refine seq_offK0 rfl ?hy ?_); (case hy => first | assumption | exact notF (by assumption) | exact rfl)) | (revert hF; (with_reducible refine seq_opF ?hx ?_ ?_); (case hx => exact rfl); (intro hc hF Q q0 q1 q2; conv => whnf); rotate_left; (intro hc hF); rotate_right) | (revert hF; (with_reducible refine seq_opN ?hx ?_ ?_); (case hx => exact rfl); (intro hc hF); rotate_left; (intro hc hF Q q0 q1 q2; conv => whnf); rotate_right) | (revert hF; (with_reducible refine seq_opF0 ?hx ?_ ?_); (case hx => exact rfl); (intro hc hF Q q0 q1 q2; conv => whnf); rotate_left; (intro hc hF); rotate_right) | (revert hF; (with_reducible refine seq_opN0 ?hx ?_ ?_); (case hx => exact rfl); (intro hc hF); rotate_left; (intro hc hF Q q0 q1 q2; conv => whnf); rotate_right)))
    | ((with_reducible refine seq_nil ?_); (first | ((with_reducible refine hR _ ?_); clear R hR) | ((with_reducible refine hL _ ?_); clear L hL)))
    | ((with_reducible refine int_step ?_); conv => whnf)
    | with_reducible refine vc_skip ?_
    | with_reducible refine vc_ret ?_
    | ((with_reducible refine vc_seqN [] ?hx ?_); (case hx => exact rfl))
    | (with_reducible refine vc_region (fun R hR => ?_))
    | fail
    | with_reducible refine k_seq_ret ?_
    | ((refine row_all ?hn ?_); (case hn => first | exact rfl | (simp; done) | (simp; omega)); conv => whnf)
    | ((with_reducible refine le_step ?hn ?_); (case hn => first | exact rfl | assumption | omega); conv => whnf)
    | ((refine ⟨?hx, ?_⟩); (case hx => exact ⟨rfl, Nat.le_of_ble_eq_true rfl, rfl⟩); conv => whnf)
    | ((with_reducible refine ex_step ?_); conv => whnf)
    | ((with_reducible refine both_T ?hx ?_); (case hx => first | exact rfl | assumption | exact notT (by assumption)); conv => whnf)
    | ((with_reducible refine both_F ?hx ?_); (case hx => first | exact rfl | assumption | exact notF (by assumption)); conv => whnf)
    | (revert hF; (with_reducible refine ite_step ?_ ?_) <;> (intro hc hF; conv => whnf))
    | (show retD _ _ _ _ _ _; conv => whnf)
    | ((refine ⟨?hx, trivial⟩); (case hx => (cases hF; exact rfl)))
    | ((refine ⟨?hx, ?_⟩); (case hx => decide); conv => whnf)
    | ((with_reducible refine k_seq ?_))
    | (have hF : (none : Option _) = some _ := hF; cases hF))
end
end Go.Vc
namespace Go.Vc
open Go.Proofs
set_option linter.unusedVariables false
set_option linter.unnecessarySimpa false
set_option linter.unusedSimpArgs false
section
variable {c : Ctx} {p nid : Nat} {a b : Code} {st : St} {K : Ex → St → Prop}
/- f53: (tusche/cut.Label).across -/
def f53 (N : Nat) (a0 : Label) : Option (Int × Int) :=
 some (a0.X, W (a0.X + a0.W))
def G53 (ds : List D) (d : D) : Prop := ∃ (N : Nat) (a0 : Label) (r : Int × Int), ds = [Label.d a0] ∧ f53 N a0 = some r ∧ d = .tup [iN r.1, iN r.2]
theorem G53.step {N : Nat} {a0 : Label} {ρ : Type} {A : (Int × Int) → Option ρ} {q : ρ} {ds : List D} {K : D → Prop} (hd : ds = [Label.d a0]) (h : ∀ r, A r = some q → K (.tup [iN r.1, iN r.2])) (hF : (f53 N a0).bind A = some q) : ∃ d, G53 ds d ∧ K d := by
  obtain ⟨r, hr, hA⟩ := bind_some hF
  exact ⟨_, ⟨N, a0, r, hd, hr, rfl⟩, h r hA⟩
set_option maxRecDepth 20000 in
set_option maxHeartbeats 4000000 in
theorem P53 : PureOK Try.prog 53 G53 := by
  refine pure_of_vc (c := mkCtx tyTree []) rfl tyOK (ctx_nil) [[0], [0]] 1 Try.func53 rfl rfl (by decide) (by kernel_rfl) ?_
  rintro ds d ⟨N, a0, r, rfl, hF, rfl⟩ hok
  clear hok
  refine ⟨rfl, ?_⟩
  show vc _ _ _ _ ⟨[(0, .dat (Label.d a0))], []⟩ _
  unfold f53 at hF
  repeat' (first
    | ((with_reducible refine q0 _ _ ?_); clear Q q0 q1 q2)
    | ((with_reducible refine q1 _ _ _ _ ?_); clear Q q0 q1 q2)
    | ((with_reducible refine q2 _ _ _ ?_); clear Q q0 q1 q2)
    | ((with_reducible refine seq_op ?hx (fun Q q0 q1 q2 => ?_)); (case hx => exact rfl); conv => whnf)
    | ((with_reducible refine draw_op ?hx (fun Q q0 q1 q2 => ?_)); (case hx => exact rfl); conv => whnf)
    | ((with_reducible refine seq_nil ?_); (first | ((with_reducible refine hR _ ?_); clear R hR) | ((with_reducible refine hL _ ?_); clear L hL)))
    | ((with_reducible refine draw_nil ?_); (with_reducible refine hR _ _ ?hx ?_); (case hx => kernel_rfl); (first | clear R hR | clear hR))
    | ((with_reducible refine int_step ?_); conv => whnf)
    | with_reducible refine vc_skip ?_
    | with_reducible refine vc_ret ?_
    | ((with_reducible refine vc_seqN [] ?hx ?_); (case hx => exact rfl))
    | (with_reducible refine vc_region (fun R hR => ?_))
    | ((with_reducible refine vc_draw ?hx (fun R hR => ?_)); (case hx => exact rfl))
    | fail
    | with_reducible refine k_seq_ret ?_
    | ((refine row_all ?hn ?_); (case hn => first | exact rfl | (simp; done) | (simp; omega)); conv => whnf)
    | ((with_reducible refine le_step ?hn ?_); (case hn => first | exact rfl | assumption | omega); conv => whnf)
    | ((refine ⟨?hx, ?_⟩); (case hx => exact ⟨rfl, Nat.le_of_ble_eq_true rfl, rfl⟩); conv => whnf)
    | ((with_reducible refine ex_step ?_); conv => whnf)
    | ((with_reducible refine both_T ?hx ?_); (case hx => first | exact rfl | assumption | exact notT (by assumption)); conv => whnf)
    | ((with_reducible refine both_F ?hx ?_); (case hx => first | exact rfl | assumption | exact notF (by assumption)); conv => whnf)
    | (revert hF; (with_reducible refine ite_step ?_ ?_) <;> (intro hc hF; conv => whnf))
    | (show retD _ _ _ _ _ _; conv => whnf)
    | ((refine ⟨?hx, trivial⟩); (case hx => (cases hF; exact rfl)))
    | ((refine ⟨?hx, ?_⟩); (case hx => decide); conv => whnf)
    | ((with_reducible refine k_seq ?_))
    | (have hF : (none : Option _) = some _ := hF; cases hF))
end
end Go.Vc
namespace Go.Vc
open Go.Proofs
set_option linter.unusedVariables false
set_option linter.unnecessarySimpa false
set_option linter.unusedSimpArgs false
section
variable {c : Ctx} {p nid : Nat} {a b : Code} {st : St} {K : Ex → St → Prop}
/- f55: (tusche/cut.Label).upward -/
def f55 (N : Nat) (a0 : Label) : Option (Int × Int) :=
 some (a0.Y, W (a0.Y + a0.H))
def G55 (ds : List D) (d : D) : Prop := ∃ (N : Nat) (a0 : Label) (r : Int × Int), ds = [Label.d a0] ∧ f55 N a0 = some r ∧ d = .tup [iN r.1, iN r.2]
theorem G55.step {N : Nat} {a0 : Label} {ρ : Type} {A : (Int × Int) → Option ρ} {q : ρ} {ds : List D} {K : D → Prop} (hd : ds = [Label.d a0]) (h : ∀ r, A r = some q → K (.tup [iN r.1, iN r.2])) (hF : (f55 N a0).bind A = some q) : ∃ d, G55 ds d ∧ K d := by
  obtain ⟨r, hr, hA⟩ := bind_some hF
  exact ⟨_, ⟨N, a0, r, hd, hr, rfl⟩, h r hA⟩
set_option maxRecDepth 20000 in
set_option maxHeartbeats 4000000 in
theorem P55 : PureOK Try.prog 55 G55 := by
  refine pure_of_vc (c := mkCtx tyTree []) rfl tyOK (ctx_nil) [[0], [0]] 1 Try.func55 rfl rfl (by decide) (by kernel_rfl) ?_
  rintro ds d ⟨N, a0, r, rfl, hF, rfl⟩ hok
  clear hok
  refine ⟨rfl, ?_⟩
  show vc _ _ _ _ ⟨[(0, .dat (Label.d a0))], []⟩ _
  unfold f55 at hF
  repeat' (first
    | ((with_reducible refine q0 _ _ ?_); clear Q q0 q1 q2)
    | ((with_reducible refine q1 _ _ _ _ ?_); clear Q q0 q1 q2)
    | ((with_reducible refine q2 _ _ _ ?_); clear Q q0 q1 q2)
    | ((with_reducible refine seq_op ?hx (fun Q q0 q1 q2 => ?_)); (case hx => exact rfl); conv => whnf)
    | ((with_reducible refine draw_op ?hx (fun Q q0 q1 q2 => ?_)); (case hx => exact rfl); conv => whnf)
    | ((with_reducible refine seq_nil ?_); (first | ((with_reducible refine hR _ ?_); clear R hR) | ((with_reducible refine hL _ ?_); clear L hL)))
    | ((with_reducible refine draw_nil ?_); (with_reducible refine hR _ _ ?hx ?_); (case hx => kernel_rfl); (first | clear R hR | clear hR))
    | ((with_reducible refine int_step ?_); conv => whnf)
    | with_reducible refine vc_skip ?_
    | with_reducible refine vc_ret ?_
    | ((with_reducible refine vc_seqN [] ?hx ?_); (case hx => exact rfl))
    | (with_reducible refine vc_region (fun R hR => ?_))
    | ((with_reducible refine vc_draw ?hx (fun R hR => ?_)); (case hx => exact rfl))
    | fail
    | with_reducible refine k_seq_ret ?_
    | ((refine row_all ?hn ?_); (case hn => first | exact rfl | (simp; done) | (simp; omega)); conv => whnf)
    | ((with_reducible refine le_step ?hn ?_); (case hn => first | exact rfl | assumption | omega); conv => whnf)
    | ((refine ⟨?hx, ?_⟩); (case hx => exact ⟨rfl, Nat.le_of_ble_eq_true rfl, rfl⟩); conv => whnf)
    | ((with_reducible refine ex_step ?_); conv => whnf)
    | ((with_reducible refine both_T ?hx ?_); (case hx => first | exact rfl | assumption | exact notT (by assumption)); conv => whnf)
    | ((with_reducible refine both_F ?hx ?_); (case hx => first | exact rfl | assumption | exact notF (by assumption)); conv => whnf)
    | (revert hF; (with_reducible refine ite_step ?_ ?_) <;> (intro hc hF; conv => whnf))
    | (show retD _ _ _ _ _ _; conv => whnf)
    | ((refine ⟨?hx, trivial⟩); (case hx => (cases hF; exact rfl)))
    | ((refine ⟨?hx, ?_⟩); (case hx => decide); conv => whnf)
    | ((with_reducible refine k_seq ?_))
    | (have hF : (none : Option _) = some _ := hF; cases hF))
end
end Go.Vc
namespace Go.Vc
open Go.Proofs
set_option linter.unusedVariables false
set_option linter.unnecessarySimpa false
set_option linter.unusedSimpArgs false
section
variable {c : Ctx} {p nid : Nat} {a b : Code} {st : St} {K : Ex → St → Prop}
/- f20: tusche/cut.Check -/
def f20_c23 : Option (Int) :=
 some ((0 : Int))
def Sf20_c23 : Ann := ⟨[], [], [], []⟩
def Vf20_c23 : List SV := []
def Bf20_c23 : List Blk := []
def Yf20_c23 (y : Unit) : List SV := Vf20_c23
def Xf20_c23 (y : Unit) : List Blk := Bf20_c23
def Jf20_c23 (r : Int) (y : Unit) : Prop := f20_c23 = some r
theorem Cf20_c23 {r : Int} {g : _ → Option (Int)} (hn : Nat.beq (nid * 1000 + firstRegion b) 23 = true) (hz : Sf20_c23.ok p = true) (h : g f20_c23 = some r → vc c p nid a st (KHead Sf20_c23 Yf20_c23 Xf20_c23 (Jf20_c23 r) K)) (h2 : ∀ (_ : Unit), f20_c23 = some r → vc c p nid b (St.mk' Sf20_c23 Vf20_c23 Bf20_c23) K) (hF : joinK f20_c23 g = some r) : vc c p nid (.seq a b) st K :=
  vc_cut Sf20_c23 Yf20_c23 Xf20_c23 (Jf20_c23 r) hz (h hF) fun y hy => h2 () hy
theorem Zf20_c23 {r : Int} (hF : f20_c23 = some r) (h0 : AtH Sf20_c23 st Vf20_c23 Bf20_c23) : KHead Sf20_c23 Yf20_c23 Xf20_c23 (Jf20_c23 r) K .normal st := by
  exact khead (I := (Jf20_c23 r)) (x := ()) hF h0
def f20_c22 (a0 : Layout) (v80 : Int) (r14 : Int → Option (Int)) : Option (Int) :=
 r14 (W (v80 + (1 : Int)))
def Sf20_c22 : Ann := ⟨[1, 78, 79, 80], [0], [], []⟩
def Vf20_c22 (a0 : Layout) (v80 : Int) : List SV := [.ptr 0 0, .dat (sl_Label a0.Labels), .dat (iN (List.length a0.Labels : Int)), .dat (iN v80)]
def Bf20_c22 (a0 : Layout) (v80 : Int) : List Blk := [.box [.dat (iN a0.W), .dat (iN a0.H), .dat (sl_Label a0.Labels)]]
def Yf20_c22 (a0 : Layout) (v80 : Int) (y : Unit) : List SV := Vf20_c22 a0 v80
def Xf20_c22 (a0 : Layout) (v80 : Int) (y : Unit) : List Blk := Bf20_c22 a0 v80
def Jf20_c22 (a0 : Layout) (v80 : Int) (r14 : Int → Option (Int)) (r : Int) (y : Unit) : Prop := f20_c22 a0 v80 r14 = some r
theorem Cf20_c22 {r : Int} {a0 : Layout} {v80 : Int} {r14 : Int → Option (Int)} {g : _ → Option (Int)} (hn : Nat.beq (nid * 1000 + firstRegion b) 22 = true) (hz : Sf20_c22.ok p = true) (h : g (f20_c22 a0 v80 r14) = some r → vc c p nid a st (KHead Sf20_c22 (Yf20_c22 a0 v80) (Xf20_c22 a0 v80) (Jf20_c22 a0 v80 r14 r) K)) (h2 : ∀ (_ : Unit), f20_c22 a0 v80 r14 = some r → vc c p nid b (St.mk' Sf20_c22 (Vf20_c22 a0 v80) (Bf20_c22 a0 v80)) K) (hF : joinK (f20_c22 a0 v80 r14) g = some r) : vc c p nid (.seq a b) st K :=
  vc_cut Sf20_c22 (Yf20_c22 a0 v80) (Xf20_c22 a0 v80) (Jf20_c22 a0 v80 r14 r) hz (h hF) fun y hy => h2 () hy
theorem Zf20_c22 {r : Int} {a0 : Layout} {v80 : Int} {r14 : Int → Option (Int)} (hF : f20_c22 a0 v80 r14 = some r) (h0 : AtH Sf20_c22 st (Vf20_c22 a0 v80) (Bf20_c22 a0 v80)) : KHead Sf20_c22 (Yf20_c22 a0 v80) (Xf20_c22 a0 v80) (Jf20_c22 a0 v80 r14 r) K .normal st := by
  exact khead (I := (Jf20_c22 a0 v80 r14 r)) (x := ()) hF h0
def f20_17b (r17 : Int → Option (Int)) (a0 : Layout) (N : Nat) (v80 : Int) (k1 : Option (Int)) (x3 : Label) (x4 : List Label) (v90 : Int) : Option (Int) :=
 bif decide (v90 < (List.length x4 : Int)) then ((ix x4 v90).bind fun x5 =>
 (f53 N x3).bind fun x6 =>
 (f53 N x5).bind fun x7 =>
 bif decide (x6.1 < x7.2) then (bif decide (x7.1 < x6.2) then ((f55 N x3).bind fun x8 =>
 (f55 N x5).bind fun x9 =>
 bif decide (x8.1 < x9.2) then (bif decide (x9.1 < x8.2) then (some ((12 : Int)))
 else (r17 (W (v90 + (1 : Int)))))
 else (r17 (W (v90 + (1 : Int)))))
 else (r17 (W (v90 + (1 : Int)))))
 else (r17 (W (v90 + (1 : Int)))))
 else k1
def f20_17 (a0 : Layout) (N : Nat) (v80 : Int) (k1 : Option (Int)) (x3 : Label) (x4 : List Label) : Nat → Int → Option (Int)
  | 0, _ => none
  | n + 1, v90 => f20_17b (f20_17 a0 N v80 k1 x3 x4 n) a0 N v80 k1 x3 x4 v90
def Sf20_17 : Ann := ⟨[1, 6, 78, 79, 80, 88, 89, 90], [0, 1503], [], []⟩
def Vf20_17 (a0 : Layout) (v80 : Int) (x3 : Label) (x4 : List Label) (v90 : Int) : List SV := [.ptr 0 0, .ptr 1503 0, .dat (sl_Label a0.Labels), .dat (iN (List.length a0.Labels : Int)), .dat (iN v80), .dat (sl_Label x4), .dat (iN (List.length x4 : Int)), .dat (iN v90)]
def Bf20_17 (a0 : Layout) (v80 : Int) (x3 : Label) (x4 : List Label) (v90 : Int) : List Blk := [.box [.dat (iN a0.W), .dat (iN a0.H), .dat (sl_Label a0.Labels)], .box [.dat (iN x3.X), .dat (iN x3.Y), .dat (iN x3.W), .dat (iN x3.H)]]
def Yf20_17 (a0 : Layout) (v80 : Int) (x3 : Label) (x4 : List Label) (y : Nat × Int) : List SV := Vf20_17 a0 v80 x3 x4 y.2
def Xf20_17 (a0 : Layout) (v80 : Int) (x3 : Label) (x4 : List Label) (y : Nat × Int) : List Blk := Bf20_17 a0 v80 x3 x4 y.2
def Jf20_17 (a0 : Layout) (N : Nat) (v80 : Int) (k1 : Option (Int)) (x3 : Label) (x4 : List Label) (r : Int) (y : Nat × Int) : Prop := f20_17 a0 N v80 k1 x3 x4 y.1 y.2 = some r
theorem Lf20_17 {r : Int} {a0 : Layout} {N : Nat} {v80 : Int} {k1 : Option (Int)} {x3 : Label} {x4 : List Label} {fu : Nat} {v90 : Int} (hz : Sf20_17.ok p = true) (h0 : AtH Sf20_17 st (Vf20_17 a0 v80 x3 x4 v90) (Bf20_17 a0 v80 x3 x4 v90)) (h : ∀ (n : Nat) (v90 : Int), f20_17b (f20_17 a0 N v80 k1 x3 x4 n) a0 N v80 k1 x3 x4 v90 = some r → vc c p nid a (St.mk' Sf20_17 (Vf20_17 a0 v80 x3 x4 v90) (Bf20_17 a0 v80 x3 x4 v90)) (Kloop Sf20_17 (Yf20_17 a0 v80 x3 x4) (Xf20_17 a0 v80 x3 x4) (Jf20_17 a0 N v80 k1 x3 x4 r) Prod.fst (n + 1, v90) K)) (hF : f20_17 a0 N v80 k1 x3 x4 fu v90 = some r) : vc c p nid (.loop a) st K := by
  refine vc_loop Sf20_17 (Yf20_17 a0 v80 x3 x4) (Xf20_17 a0 v80 x3 x4) (Jf20_17 a0 N v80 k1 x3 x4 r) Prod.fst hz (kheadL (x := (fu, v90)) hF h0) ?_
  rintro ⟨_ | n, v90⟩ hI
  · cases hI
  · exact h n v90 hI
theorem Mf20_17 {r : Int} {a0 : Layout} {N : Nat} {v80 : Int} {k1 : Option (Int)} {x3 : Label} {x4 : List Label} {n : Nat} {v90 : Int} {v90_ : Int} (hF : f20_17 a0 N v80 k1 x3 x4 n v90 = some r) (h0 : AtH Sf20_17 st (Vf20_17 a0 v80 x3 x4 v90) (Bf20_17 a0 v80 x3 x4 v90)) : Kloop Sf20_17 (Yf20_17 a0 v80 x3 x4) (Xf20_17 a0 v80 x3 x4) (Jf20_17 a0 N v80 k1 x3 x4 r) Prod.fst (n + 1, v90_) K .normal st := by
  exact kback (y := (n, v90)) hF (Nat.lt_succ_self n) h0
def f20_14b (r14 : Int → Option (Int)) (a0 : Layout) (N : Nat) (k0 : Option (Int)) (v80 : Int) : Option (Int) :=
 bif decide (v80 < (List.length a0.Labels : Int)) then (joinK (f20_c22 a0 v80 r14) fun k1 =>
 (ix a0.Labels v80).bind fun x3 =>
 (sub a0.Labels 0 v80).bind fun x4 =>
 f20_17 a0 N v80 k1 x3 x4 N (0 : Int))
 else k0
def f20_14 (a0 : Layout) (N : Nat) (k0 : Option (Int)) : Nat → Int → Option (Int)
  | 0, _ => none
  | n + 1, v80 => f20_14b (f20_14 a0 N k0 n) a0 N k0 v80
def Sf20_14 : Ann := ⟨[1, 78, 79, 80], [0], [], []⟩
def Vf20_14 (a0 : Layout) (v80 : Int) : List SV := [.ptr 0 0, .dat (sl_Label a0.Labels), .dat (iN (List.length a0.Labels : Int)), .dat (iN v80)]
def Bf20_14 (a0 : Layout) (v80 : Int) : List Blk := [.box [.dat (iN a0.W), .dat (iN a0.H), .dat (sl_Label a0.Labels)]]
def Yf20_14 (a0 : Layout) (y : Nat × Int) : List SV := Vf20_14 a0 y.2
def Xf20_14 (a0 : Layout) (y : Nat × Int) : List Blk := Bf20_14 a0 y.2
def Jf20_14 (a0 : Layout) (N : Nat) (k0 : Option (Int)) (r : Int) (y : Nat × Int) : Prop := f20_14 a0 N k0 y.1 y.2 = some r
theorem Lf20_14 {r : Int} {a0 : Layout} {N : Nat} {k0 : Option (Int)} {fu : Nat} {v80 : Int} (hz : Sf20_14.ok p = true) (h0 : AtH Sf20_14 st (Vf20_14 a0 v80) (Bf20_14 a0 v80)) (h : ∀ (n : Nat) (v80 : Int), f20_14b (f20_14 a0 N k0 n) a0 N k0 v80 = some r → vc c p nid a (St.mk' Sf20_14 (Vf20_14 a0 v80) (Bf20_14 a0 v80)) (Kloop Sf20_14 (Yf20_14 a0) (Xf20_14 a0) (Jf20_14 a0 N k0 r) Prod.fst (n + 1, v80) K)) (hF : f20_14 a0 N k0 fu v80 = some r) : vc c p nid (.loop a) st K := by
  refine vc_loop Sf20_14 (Yf20_14 a0) (Xf20_14 a0) (Jf20_14 a0 N k0 r) Prod.fst hz (kheadL (x := (fu, v80)) hF h0) ?_
  rintro ⟨_ | n, v80⟩ hI
  · cases hI
  · exact h n v80 hI
theorem Mf20_14 {r : Int} {a0 : Layout} {N : Nat} {k0 : Option (Int)} {n : Nat} {v80 : Int} {v80_ : Int} (hF : f20_14 a0 N k0 n v80 = some r) (h0 : AtH Sf20_14 st (Vf20_14 a0 v80) (Bf20_14 a0 v80)) : Kloop Sf20_14 (Yf20_14 a0) (Xf20_14 a0) (Jf20_14 a0 N k0 r) Prod.fst (n + 1, v80_) K .normal st := by
  exact kback (y := (n, v80)) hF (Nat.lt_succ_self n) h0
def f20_c13 (a0 : Layout) (N : Nat) : Option (Int) :=
 joinK f20_c23 fun k0 =>
 f20_14 a0 N k0 N (0 : Int)
def Sf20_c13 : Ann := ⟨[1], [0], [], []⟩
def Vf20_c13 (a0 : Layout) : List SV := [.ptr 0 0]
def Bf20_c13 (a0 : Layout) : List Blk := [.box [.dat (iN a0.W), .dat (iN a0.H), .dat (sl_Label a0.Labels)]]
def Yf20_c13 (a0 : Layout) (y : Unit) : List SV := Vf20_c13 a0
def Xf20_c13 (a0 : Layout) (y : Unit) : List Blk := Bf20_c13 a0
def Jf20_c13 (a0 : Layout) (N : Nat) (r : Int) (y : Unit) : Prop := f20_c13 a0 N = some r
theorem Cf20_c13 {r : Int} {a0 : Layout} {N : Nat} {g : _ → Option (Int)} (hn : Nat.beq (nid * 1000 + firstRegion b) 13 = true) (hz : Sf20_c13.ok p = true) (h : g (f20_c13 a0 N) = some r → vc c p nid a st (KHead Sf20_c13 (Yf20_c13 a0) (Xf20_c13 a0) (Jf20_c13 a0 N r) K)) (h2 : ∀ (_ : Unit), f20_c13 a0 N = some r → vc c p nid b (St.mk' Sf20_c13 (Vf20_c13 a0) (Bf20_c13 a0)) K) (hF : joinK (f20_c13 a0 N) g = some r) : vc c p nid (.seq a b) st K :=
  vc_cut Sf20_c13 (Yf20_c13 a0) (Xf20_c13 a0) (Jf20_c13 a0 N r) hz (h hF) fun y hy => h2 () hy
theorem Zf20_c13 {r : Int} {a0 : Layout} {N : Nat} (hF : f20_c13 a0 N = some r) (h0 : AtH Sf20_c13 st (Vf20_c13 a0) (Bf20_c13 a0)) : KHead Sf20_c13 (Yf20_c13 a0) (Xf20_c13 a0) (Jf20_c13 a0 N r) K .normal st := by
  exact khead (I := (Jf20_c13 a0 N r)) (x := ()) hF h0
def f20_6b (r6 : Int → Option (Int)) (a0 : Layout) (N : Nat) (k2 : Option (Int)) (v28 : Int) : Option (Int) :=
 bif decide (v28 < (List.length a0.Labels : Int)) then ((ix a0.Labels v28).bind fun x10 =>
 bif decide (x10.W < (1 : Int)) then (some ((3 : Int)))
 else (bif decide (x10.H < (1 : Int)) then (some ((3 : Int)))
 else ((f52 N (0 : Int) x10.X a0.W).bind fun x11 =>
 bif !x11 then (some ((16 : Int)))
 else ((f52 N (0 : Int) x10.Y a0.H).bind fun x12 =>
 bif !x12 then (some ((16 : Int)))
 else (bif decide ((W (a0.W - x10.X)) < x10.W) then (some ((16 : Int)))
 else (bif decide ((W (a0.H - x10.Y)) < x10.H) then (some ((16 : Int)))
 else (r6 (W (v28 + (1 : Int))))))))))
 else k2
def f20_6 (a0 : Layout) (N : Nat) (k2 : Option (Int)) : Nat → Int → Option (Int)
  | 0, _ => none
  | n + 1, v28 => f20_6b (f20_6 a0 N k2 n) a0 N k2 v28
def Sf20_6 : Ann := ⟨[1, 26, 27, 28], [0], [], []⟩
def Vf20_6 (a0 : Layout) (v28 : Int) : List SV := [.ptr 0 0, .dat (sl_Label a0.Labels), .dat (iN (List.length a0.Labels : Int)), .dat (iN v28)]
def Bf20_6 (a0 : Layout) (v28 : Int) : List Blk := [.box [.dat (iN a0.W), .dat (iN a0.H), .dat (sl_Label a0.Labels)]]
def Yf20_6 (a0 : Layout) (y : Nat × Int) : List SV := Vf20_6 a0 y.2
def Xf20_6 (a0 : Layout) (y : Nat × Int) : List Blk := Bf20_6 a0 y.2
def Jf20_6 (a0 : Layout) (N : Nat) (k2 : Option (Int)) (r : Int) (y : Nat × Int) : Prop := f20_6 a0 N k2 y.1 y.2 = some r
theorem Lf20_6 {r : Int} {a0 : Layout} {N : Nat} {k2 : Option (Int)} {fu : Nat} {v28 : Int} (hz : Sf20_6.ok p = true) (h0 : AtH Sf20_6 st (Vf20_6 a0 v28) (Bf20_6 a0 v28)) (h : ∀ (n : Nat) (v28 : Int), f20_6b (f20_6 a0 N k2 n) a0 N k2 v28 = some r → vc c p nid a (St.mk' Sf20_6 (Vf20_6 a0 v28) (Bf20_6 a0 v28)) (Kloop Sf20_6 (Yf20_6 a0) (Xf20_6 a0) (Jf20_6 a0 N k2 r) Prod.fst (n + 1, v28) K)) (hF : f20_6 a0 N k2 fu v28 = some r) : vc c p nid (.loop a) st K := by
  refine vc_loop Sf20_6 (Yf20_6 a0) (Xf20_6 a0) (Jf20_6 a0 N k2 r) Prod.fst hz (kheadL (x := (fu, v28)) hF h0) ?_
  rintro ⟨_ | n, v28⟩ hI
  · cases hI
  · exact h n v28 hI
theorem Mf20_6 {r : Int} {a0 : Layout} {N : Nat} {k2 : Option (Int)} {n : Nat} {v28 : Int} {v28_ : Int} (hF : f20_6 a0 N k2 n v28 = some r) (h0 : AtH Sf20_6 st (Vf20_6 a0 v28) (Bf20_6 a0 v28)) : Kloop Sf20_6 (Yf20_6 a0) (Xf20_6 a0) (Jf20_6 a0 N k2 r) Prod.fst (n + 1, v28_) K .normal st := by
  exact kback (y := (n, v28)) hF (Nat.lt_succ_self n) h0
def f20 (N : Nat) (a0 : Layout) : Option (Int) :=
 (f52 N (1 : Int) a0.W (12 : Int)).bind fun x1 =>
 bif !x1 then (some ((3 : Int)))
 else ((f52 N (1 : Int) a0.H (12 : Int)).bind fun x2 =>
 bif !x2 then (some ((3 : Int)))
 else (bif decide ((10 : Int) < (List.length a0.Labels : Int)) then (some ((2 : Int)))
 else (joinK (f20_c13 a0 N) fun k2 =>
 f20_6 a0 N k2 N (0 : Int))))
def G20 (ds : List D) (d : D) : Prop := ∃ (N : Nat) (a0 : Layout) (r : Int), ds = [Layout.d a0] ∧ f20 N a0 = some r ∧ d = iN r
theorem G20.step {N : Nat} {a0 : Layout} {ρ : Type} {A : Int → Option ρ} {q : ρ} {ds : List D} {K : D → Prop} (hd : ds = [Layout.d a0]) (h : ∀ r, A r = some q → K (iN r)) (hF : (f20 N a0).bind A = some q) : ∃ d, G20 ds d ∧ K d := by
  obtain ⟨r, hr, hA⟩ := bind_some hF
  exact ⟨_, ⟨N, a0, r, hd, hr, rfl⟩, h r hA⟩
set_option maxRecDepth 20000 in
set_option maxHeartbeats 4000000 in
theorem P20 : PureOK Try.prog 20 G20 := by
  refine pure_of_vc (c := mkCtx tyTree [(54, false, inlPg (mkCtx tyTree [(55, true, purePg [[0, 0, 0, 0]] G55), (53, true, purePg [[0, 0, 0, 0]] G53)]) Try.f54), (52, true, purePg [[0], [0], [0]] G52)]) rfl tyOK (ctx_eff (callable Try.func54 rfl rfl) (CallOK.inl rfl tyOK (ctx_cons (callable Try.func55 rfl rfl) P55 (ctx_cons (callable Try.func53 rfl rfl) P53 (ctx_nil))) Try.func54 (by kernel_rfl)) (ctx_cons (callable Try.func52 rfl rfl) P52 (ctx_nil))) [[0]] 1 Try.func20 rfl rfl (by decide) (by kernel_rfl) ?_
  rintro ds d ⟨N, a0, r, rfl, hF, rfl⟩ hok
  clear hok
  refine ⟨rfl, ?_⟩
  show vc _ _ _ _ ⟨[(0, .dat (Layout.d a0))], []⟩ _
  unfold f20 at hF
  repeat' (first
    | ((with_reducible refine q0 _ _ ?_); clear Q q0 q1 q2)
    | ((with_reducible refine q1 _ _ _ _ ?_); clear Q q0 q1 q2)
    | ((with_reducible refine q2 _ _ _ ?_); clear Q q0 q1 q2)
    | ((with_reducible refine seq_op ?hx (fun Q q0 q1 q2 => ?_)); (case hx => exact rfl); conv => whnf)
    | ((with_reducible refine seq_op0 ?hx (fun Q q0 q1 q2 => ?_)); (case hx => exact rfl); conv => whnf)
    | ((with_reducible refine seq_off ?hx ?_); (case hx => exact rfl))
    | ((with_reducible refine seq_off0 ?hx ?_); (case hx => exact rfl))
    | ((with_reducible refine seq_id ?_); (first | ((refine seq_opK rfl ?hy (fun Q q0 q1 q2 => ?_)); (case hy => first | assumption | exact notT (by assumption) | exact rfl); conv => whnf) | ((refine seq_offK rfl ?hy ?_); (case hy => first | assumption | exact notF (by assumption) | exact rfl)) | ((refine seq_opK0 rfl ?hy (fun Q q0 q1 q2 => ?_)); (case hy => first | assumption | exact notT (by assumption) | exact rfl); conv => whnf) | ((refine seq_offK0 rfl ?hy ?_); (case hy => first | assumption | exact notF (by assumption) | exact rfl)) | (revert hF; (with_reducible refine seq_opF ?hx ?_ ?_); (case hx => exact rfl); (intro hc hF Q q0 q1 q2; conv => whnf); rotate_left; (intro hc hF); rotate_right) | (revert hF; (with_reducible refine seq_opN ?hx ?_ ?_); (case hx => exact rfl); (intro hc hF); rotate_left; (intro hc hF Q q0 q1 q2; conv => whnf); rotate_right) | (revert hF; (with_reducible refine seq_opF0 ?hx ?_ ?_); (case hx => exact rfl); (intro hc hF Q q0 q1 q2; conv => whnf); rotate_left; (intro hc hF); rotate_right) | (revert hF; (with_reducible refine seq_opN0 ?hx ?_ ?_); (case hx => exact rfl); (intro hc hF); rotate_left; (intro hc hF Q q0 q1 q2; conv => whnf); rotate_right)))
    | ((with_reducible refine cond_id ?_); (first | ((refine condKT rfl ?hy ?_); (case hy => first | assumption | exact notT (by assumption) | exact rfl)) | ((refine condKF rfl ?hy ?_); (case hy => first | assumption | exact notF (by assumption) | exact rfl)) | (revert hF; (with_reducible refine condF ?hx ?_ ?_); (case hx => exact rfl); all_goals (intro hc hF))))
    | ((with_reducible refine seq_nil ?_); (first | ((with_reducible refine hR _ ?_); clear R hR) | ((with_reducible refine hL _ ?_); clear L hL)))
    | ((with_reducible refine int_step ?_); conv => whnf)
    | ((with_reducible refine len_step ?_); conv => whnf)
    | ((with_reducible refine idx2 (by assumption) ?_); conv => whnf)
    | ((with_reducible refine idx3 (by assumption) ?_); conv => whnf)
    | with_reducible refine vc_block ?_
    | with_reducible refine vc_skip ?_
    | with_reducible refine vc_ret ?_
    | with_reducible refine vc_exit ?_
    | ((with_reducible refine vc_seqN [23, 22, 13] ?hx ?_); (case hx => exact rfl))
    | (with_reducible refine vc_region (fun R hR => ?_))
    | fail
    | (revert hF; (refine Cf20_c23 rfl rfl ?_ ?_); (intro hF); rotate_left; (intro _ hF; unfold f20_c23 at hF); rotate_right)
    | exact Zf20_c23 hF ⟨_, rfl, rfl, rfl, rfl⟩
    | (revert hF; (refine Cf20_c22 rfl rfl ?_ ?_); (intro hF); rotate_left; (intro _ hF; unfold f20_c22 at hF); rotate_right)
    | exact Zf20_c22 hF ⟨_, rfl, rfl, rfl, rfl⟩
    | (revert hF; (refine Lf20_17 rfl ⟨_, rfl, rfl, rfl, rfl⟩ ?_); intro n v90 hF; unfold f20_17b at hF)
    | exact Mf20_17 hF ⟨_, rfl, rfl, rfl, rfl⟩
    | (revert hF; (refine Lf20_14 rfl ⟨_, rfl, rfl, rfl, rfl⟩ ?_); intro n v80 hF; unfold f20_14b at hF)
    | exact Mf20_14 hF ⟨_, rfl, rfl, rfl, rfl⟩
    | (revert hF; (refine Cf20_c13 rfl rfl ?_ ?_); (intro hF); rotate_left; (intro _ hF; unfold f20_c13 at hF); rotate_right)
    | exact Zf20_c13 hF ⟨_, rfl, rfl, rfl, rfl⟩
    | (revert hF; (refine Lf20_6 rfl ⟨_, rfl, rfl, rfl, rfl⟩ ?_); intro n v28 hF; unfold f20_6b at hF)
    | exact Mf20_6 hF ⟨_, rfl, rfl, rfl, rfl⟩
    | (revert hF; (with_reducible refine G52.step ?hx ?_); (case hx => exact rfl); intro v hF; conv => whnf)
    | (revert hF; (with_reducible refine G53.step ?hx ?_); (case hx => exact rfl); intro v hF; conv => whnf)
    | (revert hF; (with_reducible refine G55.step ?hx ?_); (case hx => exact rfl); intro v hF; conv => whnf)
    | with_reducible refine k_seq_ret ?_
    | with_reducible refine k_seq_exit ?_
    | with_reducible refine k_blk ?_
    | with_reducible refine k_blk_ret ?_
    | with_reducible refine k_blk_here ?_
    | ((with_reducible refine k_blk_out ?hx ?_); (case hx => exact rfl))
    | with_reducible refine k_loop_ret ?_
    | with_reducible refine k_loop_exit ?_
    | (revert hF; (with_reducible refine idx1 ?hn ?_); (case hn => first | exact rfl | exact (List.length_map _) | assumption | omega | simp); intro x hx hF; conv => whnf)
    | ((with_reducible have hG := sub_fact hF); clear hF; (first | (refine sub_step hG (fun q hF => ?_)) | (refine subrow_step hG ?hn (fun q hF => ?_); (case hn => first | exact rfl | assumption | omega))); clear hG; conv => whnf)
    | ((refine row_all ?hn ?_); (case hn => first | exact rfl | (simp; done) | (simp; omega)); conv => whnf)
    | ((with_reducible refine le_step ?hn ?_); (case hn => first | exact rfl | assumption | omega); conv => whnf)
    | ((refine ⟨?hx, ?_⟩); (case hx => exact ⟨rfl, Nat.le_of_ble_eq_true rfl, rfl⟩); conv => whnf)
    | ((with_reducible refine ex_step ?_); conv => whnf)
    | ((with_reducible refine both_T ?hx ?_); (case hx => first | exact rfl | assumption | exact notT (by assumption)); conv => whnf)
    | ((with_reducible refine both_F ?hx ?_); (case hx => first | exact rfl | assumption | exact notF (by assumption)); conv => whnf)
    | (revert hF; (with_reducible refine ite_step ?_ ?_) <;> (intro hc hF; conv => whnf))
    | ((with_reducible refine vc_condT ?hx ?_); (case hx => exact rfl))
    | ((with_reducible refine vc_condF ?hx ?_); (case hx => exact rfl))
    | (show retD _ _ _ _ _ _; conv => whnf)
    | ((refine inl_step ?ha ?hb ?hc rfl ?_); (case ha => exact rfl); (case hb => omega); (case hc => exact Nat.le_of_ble_eq_true rfl))
    | (show Kinl _ _ _ _ _ _ _; conv => whnf)
    | ((with_reducible refine kinl_step ?ha ?hb ?_); (case ha => exact rfl); (case hb => exact rfl); conv => whnf)
    | ((refine ⟨?hx, trivial⟩); (case hx => (cases hF; exact rfl)))
    | ((refine ⟨?hx, ?_⟩); (case hx => decide); conv => whnf)
    | ((with_reducible refine k_seq ?_))
    | (have hF : (none : Option _) = some _ := hF; cases hF))
end
end Go.Vc
namespace Go.Vc
open Go.Proofs
set_option linter.unusedVariables false
set_option linter.unnecessarySimpa false
set_option linter.unusedSimpArgs false
section
variable {c : Ctx} {p nid : Nat} {a b : Code} {st : St} {K : Ex → St → Prop}
/- f44: tusche/cut.whole -/
def f44 (N : Nat) (a0 : Layout) : Option (Piece) :=
 some ((Piece.mk (Label.mk (0 : Int) (0 : Int) a0.W a0.H) a0.Labels))
def G44 (ds : List D) (d : D) : Prop := ∃ (N : Nat) (a0 : Layout) (r : Piece), ds = [Layout.d a0] ∧ f44 N a0 = some r ∧ d = Piece.d r
theorem G44.step {N : Nat} {a0 : Layout} {ρ : Type} {A : Piece → Option ρ} {q : ρ} {ds : List D} {K : D → Prop} (hd : ds = [Layout.d a0]) (h : ∀ r, A r = some q → K (Piece.d r)) (hF : (f44 N a0).bind A = some q) : ∃ d, G44 ds d ∧ K d := by
  obtain ⟨r, hr, hA⟩ := bind_some hF
  exact ⟨_, ⟨N, a0, r, hd, hr, rfl⟩, h r hA⟩
set_option maxRecDepth 20000 in
set_option maxHeartbeats 4000000 in
theorem P44 : PureOK Try.prog 44 G44 := by
  refine pure_of_vc (c := mkCtx tyTree []) rfl tyOK (ctx_nil) [[0, 0, 0, 0, 4]] 1 Try.func44 rfl rfl (by decide) (by kernel_rfl) ?_
  rintro ds d ⟨N, a0, r, rfl, hF, rfl⟩ hok
  clear hok
  refine ⟨rfl, ?_⟩
  show vc _ _ _ _ ⟨[(0, .dat (Layout.d a0))], []⟩ _
  unfold f44 at hF
  repeat' (first
    | ((with_reducible refine q0 _ _ ?_); clear Q q0 q1 q2)
    | ((with_reducible refine q1 _ _ _ _ ?_); clear Q q0 q1 q2)
    | ((with_reducible refine q2 _ _ _ ?_); clear Q q0 q1 q2)
    | ((with_reducible refine seq_op ?hx (fun Q q0 q1 q2 => ?_)); (case hx => exact rfl); conv => whnf)
    | ((with_reducible refine seq_op0 ?hx (fun Q q0 q1 q2 => ?_)); (case hx => exact rfl); conv => whnf)
    | ((with_reducible refine seq_nil ?_); (first | ((with_reducible refine hR _ ?_); clear R hR) | ((with_reducible refine hL _ ?_); clear L hL)))
    | ((with_reducible refine int_step ?_); conv => whnf)
    | with_reducible refine vc_skip ?_
    | with_reducible refine vc_ret ?_
    | ((with_reducible refine vc_seqN [] ?hx ?_); (case hx => exact rfl))
    | (with_reducible refine vc_region (fun R hR => ?_))
    | fail
    | with_reducible refine k_seq_ret ?_
    | ((refine row_all ?hn ?_); (case hn => first | exact rfl | (simp; done) | (simp; omega)); conv => whnf)
    | ((with_reducible refine le_step ?hn ?_); (case hn => first | exact rfl | assumption | omega); conv => whnf)
    | ((refine ⟨?hx, ?_⟩); (case hx => exact ⟨rfl, Nat.le_of_ble_eq_true rfl, rfl⟩); conv => whnf)
    | ((with_reducible refine ex_step ?_); conv => whnf)
    | ((with_reducible refine both_T ?hx ?_); (case hx => first | exact rfl | assumption | exact notT (by assumption)); conv => whnf)
    | ((with_reducible refine both_F ?hx ?_); (case hx => first | exact rfl | assumption | exact notF (by assumption)); conv => whnf)
    | (revert hF; (with_reducible refine ite_step ?_ ?_) <;> (intro hc hF; conv => whnf))
    | (show retD _ _ _ _ _ _; conv => whnf)
    | ((refine ⟨?hx, trivial⟩); (case hx => (cases hF; exact rfl)))
    | ((refine ⟨?hx, ?_⟩); (case hx => decide); conv => whnf)
    | ((with_reducible refine k_seq ?_))
    | (have hF : (none : Option _) = some _ := hF; cases hF))
end
end Go.Vc
namespace Go.Vc
open Go.Proofs
set_option linter.unusedVariables false
set_option linter.unnecessarySimpa false
set_option linter.unusedSimpArgs false
section
variable {c : Ctx} {p nid : Nat} {a b : Code} {st : St} {K : Ex → St → Prop}
/- f69: (tusche/cut.piece).divide -/
def f69_c17 (a0 : Piece) (a1 : Cut) (v10' : List Label) (v11 : Int) : Option (Piece × Piece × Bool) :=
 (sub (v10') 0 v11).bind fun x3 =>
 (sub (v10') v11 (List.length (v10') : Int)).bind fun x4 =>
 bif decide ((0 : Int) < v11) then (some ((Piece.mk (Label.mk a0.Label_.X a0.Label_.Y (W (a1.At - a0.Label_.X)) a0.Label_.H) x3), (Piece.mk (Label.mk a1.At a0.Label_.Y (W ((W (a0.Label_.X + a0.Label_.W)) - a1.At)) a0.Label_.H) x4), decide (v11 < (List.length (v10') : Int))))
 else (some ((Piece.mk (Label.mk a0.Label_.X a0.Label_.Y (W (a1.At - a0.Label_.X)) a0.Label_.H) x3), (Piece.mk (Label.mk a1.At a0.Label_.Y (W ((W (a0.Label_.X + a0.Label_.W)) - a1.At)) a0.Label_.H) x4), false))
def Sf69_c17 : Ann := ⟨[2, 3, 4, 5, 10, 11], [0, 1, 2, 3, 90010], [(.slot 10, 90010, 50, 4)], [90010]⟩
def Vf69_c17 (a0 : Piece) (a1 : Cut) (v10' : List Label) (v11 : Int) : List SV := [.ptr 0 0, .ptr 1 0, .ptr 2 0, .ptr 3 0, .rs 90010 (List.length (v10')), .dat (iN v11)]
def Bf69_c17 (a0 : Piece) (a1 : Cut) (v10' : List Label) (v11 : Int) : List Blk := [.box [.dat (iN a0.Label_.X), .dat (iN a0.Label_.Y), .dat (iN a0.Label_.W), .dat (iN a0.Label_.H), .dat (sl_Label a0.labels)], .box [.kb a1.Up, .dat (iN a1.At)], .box [.dat (iN (0 : Int)), .dat (iN (0 : Int)), .dat (iN (0 : Int)), .dat (iN (0 : Int)), .nil], .box [.dat (iN (0 : Int)), .dat (iN (0 : Int)), .dat (iN (0 : Int)), .dat (iN (0 : Int)), .nil], .fz 50 4 (List.map Label.d (v10'))]
def Yf69_c17 (a0 : Piece) (a1 : Cut) (y : (List Label) × Int) : List SV := Vf69_c17 a0 a1 y.1 y.2
def Xf69_c17 (a0 : Piece) (a1 : Cut) (y : (List Label) × Int) : List Blk := Bf69_c17 a0 a1 y.1 y.2
def Jf69_c17 (a0 : Piece) (a1 : Cut) (r : Piece × Piece × Bool) (y : (List Label) × Int) : Prop := f69_c17 a0 a1 y.1 y.2 = some r
def V2f69_c17 (a0 : Piece) (a1 : Cut) (v10' : List Label) (v11 : Int) (m0 : Nat) : List SV := [.ptr 0 0, .ptr 1 0, .ptr 2 0, .ptr 3 0, .rs 90010 m0, .dat (iN v11)]
def B2f69_c17 (a0 : Piece) (a1 : Cut) (v10' : List Label) (v11 : Int) (m0 : Nat) : List Blk := [.box [.dat (iN a0.Label_.X), .dat (iN a0.Label_.Y), .dat (iN a0.Label_.W), .dat (iN a0.Label_.H), .dat (sl_Label a0.labels)], .box [.kb a1.Up, .dat (iN a1.At)], .box [.dat (iN (0 : Int)), .dat (iN (0 : Int)), .dat (iN (0 : Int)), .dat (iN (0 : Int)), .nil], .box [.dat (iN (0 : Int)), .dat (iN (0 : Int)), .dat (iN (0 : Int)), .dat (iN (0 : Int)), .nil], .fz 50 4 (List.map Label.d (v10'))]
theorem Cf69_c17 {r : Piece × Piece × Bool} {a0 : Piece} {a1 : Cut} {g : _ → Option (Piece × Piece × Bool)} (hn : Nat.beq (nid * 1000 + firstRegion b) 17 = true) (hz : Sf69_c17.ok p = true) (h : g (f69_c17 a0 a1) = some r → vc c p nid a st (KHead Sf69_c17 (Yf69_c17 a0 a1) (Xf69_c17 a0 a1) (Jf69_c17 a0 a1 r) K)) (h2 : ∀ (v10' : List Label) (v11 : Int), f69_c17 a0 a1 v10' v11 = some r → vc c p nid b (St.mk' Sf69_c17 (Vf69_c17 a0 a1 v10' v11) (Bf69_c17 a0 a1 v10' v11)) K) (hF : joinK (f69_c17 a0 a1) g = some r) : vc c p nid (.seq a b) st K :=
  vc_cut Sf69_c17 (Yf69_c17 a0 a1) (Xf69_c17 a0 a1) (Jf69_c17 a0 a1 r) hz (h hF) fun y hy => h2 y.1 y.2 hy
theorem Zf69_c17 {r : Piece × Piece × Bool} {a0 : Piece} {a1 : Cut} {v10' : List Label} {v11 : Int} {m0 : Nat} (hF : f69_c17 a0 a1 v10' v11 = some r) (h0 : AtH Sf69_c17 st (V2f69_c17 a0 a1 v10' v11 m0) (B2f69_c17 a0 a1 v10' v11 m0)) (em0 : m0 = List.length (v10')) : KHead Sf69_c17 (Yf69_c17 a0 a1) (Xf69_c17 a0 a1) (Jf69_c17 a0 a1 r) K .normal st := by
  subst em0; exact khead (I := (Jf69_c17 a0 a1 r)) (x := (v10', v11)) hF h0
def f69_c13 (a0 : Piece) (a1 : Cut) (v10 : List Label) (v10' : List Label) (v11 : Int) (v39 : Int) (r8 : (List Label) → Int → Int → Option (Piece × Piece × Bool)) (x6 : Int × Int) : Option (Piece × Piece × Bool) :=
 bif decide (x6.2 ≤ a1.At) then ((ix (v10') v11).bind fun x7 =>
 (ix (v10') v39).bind fun x8 =>
 (ix (v10') v39).bind fun x9 =>
 (setx (v10') v39 x7).bind fun x10 =>
 (ix x10 v11).bind fun x11 =>
 (setx x10 v11 x8).bind fun x12 =>
 r8 x12 (W (v11 + (1 : Int))) (W (v39 + (1 : Int))))
 else (r8 (v10') v11 (W (v39 + (1 : Int))))
def Sf69_c13 : Ann := ⟨[2, 3, 4, 5, 7, 10, 11, 12, 14, 38, 39], [0, 1, 2, 3, 90010], [], []⟩
def Vf69_c13 (a0 : Piece) (a1 : Cut) (v10 : List Label) (v10' : List Label) (v11 : Int) (v39 : Int) (x6 : Int × Int) : List SV := [.ptr 0 0, .ptr 1 0, .ptr 2 0, .ptr 3 0, .dat (.v (.func (.func 53) #[] #[])), .rs 90010 (List.length (v10')), .dat (iN v11), .dat (iN v39), .dat (iN x6.2), .dat (iN (List.length v10 : Int)), .dat (iN v39)]
def Bf69_c13 (a0 : Piece) (a1 : Cut) (v10 : List Label) (v10' : List Label) (v11 : Int) (v39 : Int) (x6 : Int × Int) : List Blk := [.box [.dat (iN a0.Label_.X), .dat (iN a0.Label_.Y), .dat (iN a0.Label_.W), .dat (iN a0.Label_.H), .dat (sl_Label a0.labels)], .box [.kb a1.Up, .dat (iN a1.At)], .box [.dat (iN (0 : Int)), .dat (iN (0 : Int)), .dat (iN (0 : Int)), .dat (iN (0 : Int)), .nil], .box [.dat (iN (0 : Int)), .dat (iN (0 : Int)), .dat (iN (0 : Int)), .dat (iN (0 : Int)), .nil], .row 50 4 (List.map Label.d (v10'))]
def Yf69_c13 (a0 : Piece) (a1 : Cut) (v10 : List Label) (v10' : List Label) (v11 : Int) (v39 : Int) (x6 : Int × Int) (y : Unit) : List SV := Vf69_c13 a0 a1 v10 v10' v11 v39 x6
def Xf69_c13 (a0 : Piece) (a1 : Cut) (v10 : List Label) (v10' : List Label) (v11 : Int) (v39 : Int) (x6 : Int × Int) (y : Unit) : List Blk := Bf69_c13 a0 a1 v10 v10' v11 v39 x6
def Jf69_c13 (a0 : Piece) (a1 : Cut) (v10 : List Label) (v10' : List Label) (v11 : Int) (v39 : Int) (r8 : (List Label) → Int → Int → Option (Piece × Piece × Bool)) (x6 : Int × Int) (r : Piece × Piece × Bool) (y : Unit) : Prop := f69_c13 a0 a1 v10 v10' v11 v39 r8 x6 = some r
def V2f69_c13 (a0 : Piece) (a1 : Cut) (v10 : List Label) (v10' : List Label) (v11 : Int) (v39 : Int) (x6 : Int × Int) (m0 : Nat) : List SV := [.ptr 0 0, .ptr 1 0, .ptr 2 0, .ptr 3 0, .dat (.v (.func (.func 53) #[] #[])), .rs 90010 m0, .dat (iN v11), .dat (iN v39), .dat (iN x6.2), .dat (iN (List.length v10 : Int)), .dat (iN v39)]
def B2f69_c13 (a0 : Piece) (a1 : Cut) (v10 : List Label) (v10' : List Label) (v11 : Int) (v39 : Int) (x6 : Int × Int) (m0 : Nat) : List Blk := [.box [.dat (iN a0.Label_.X), .dat (iN a0.Label_.Y), .dat (iN a0.Label_.W), .dat (iN a0.Label_.H), .dat (sl_Label a0.labels)], .box [.kb a1.Up, .dat (iN a1.At)], .box [.dat (iN (0 : Int)), .dat (iN (0 : Int)), .dat (iN (0 : Int)), .dat (iN (0 : Int)), .nil], .box [.dat (iN (0 : Int)), .dat (iN (0 : Int)), .dat (iN (0 : Int)), .dat (iN (0 : Int)), .nil], .row 50 4 (List.map Label.d (v10'))]
theorem Cf69_c13 {r : Piece × Piece × Bool} {a0 : Piece} {a1 : Cut} {v10 : List Label} {v10' : List Label} {v11 : Int} {v39 : Int} {r8 : (List Label) → Int → Int → Option (Piece × Piece × Bool)} {x6 : Int × Int} {g : _ → Option (Piece × Piece × Bool)} (hn : Nat.beq (nid * 1000 + firstRegion b) 13 = true) (hz : Sf69_c13.ok p = true) (h : g (f69_c13 a0 a1 v10 v10' v11 v39 r8 x6) = some r → vc c p nid a st (KHead Sf69_c13 (Yf69_c13 a0 a1 v10 v10' v11 v39 x6) (Xf69_c13 a0 a1 v10 v10' v11 v39 x6) (Jf69_c13 a0 a1 v10 v10' v11 v39 r8 x6 r) K)) (h2 : ∀ (_ : Unit), f69_c13 a0 a1 v10 v10' v11 v39 r8 x6 = some r → vc c p nid b (St.mk' Sf69_c13 (Vf69_c13 a0 a1 v10 v10' v11 v39 x6) (Bf69_c13 a0 a1 v10 v10' v11 v39 x6)) K) (hF : joinK (f69_c13 a0 a1 v10 v10' v11 v39 r8 x6) g = some r) : vc c p nid (.seq a b) st K :=
  vc_cut Sf69_c13 (Yf69_c13 a0 a1 v10 v10' v11 v39 x6) (Xf69_c13 a0 a1 v10 v10' v11 v39 x6) (Jf69_c13 a0 a1 v10 v10' v11 v39 r8 x6 r) hz (h hF) fun y hy => h2 () hy
theorem Zf69_c13 {r : Piece × Piece × Bool} {a0 : Piece} {a1 : Cut} {v10 : List Label} {v10' : List Label} {v11 : Int} {v39 : Int} {r8 : (List Label) → Int → Int → Option (Piece × Piece × Bool)} {x6 : Int × Int} {m0 : Nat} (hF : f69_c13 a0 a1 v10 v10' v11 v39 r8 x6 = some r) (h0 : AtH Sf69_c13 st (V2f69_c13 a0 a1 v10 v10' v11 v39 x6 m0) (B2f69_c13 a0 a1 v10 v10' v11 v39 x6 m0)) (em0 : m0 = List.length (v10')) : KHead Sf69_c13 (Yf69_c13 a0 a1 v10 v10' v11 v39 x6) (Xf69_c13 a0 a1 v10 v10' v11 v39 x6) (Jf69_c13 a0 a1 v10 v10' v11 v39 r8 x6 r) K .normal st := by
  subst em0; exact khead (I := (Jf69_c13 a0 a1 v10 v10' v11 v39 r8 x6 r)) (x := ()) hF h0
def f69_8b (r8 : (List Label) → Int → Int → Option (Piece × Piece × Bool)) (a0 : Piece) (a1 : Cut) (N : Nat) (v10 : List Label) (k0 : (List Label) → Int → Option (Piece × Piece × Bool)) (v10' : List Label) (v11 : Int) (v39 : Int) : Option (Piece × Piece × Bool) :=
 bif decide (v39 < (List.length v10 : Int)) then ((ix (v10') v39).bind fun x5 =>
 (f53 N x5).bind fun x6 =>
 joinK (f69_c13 a0 a1 v10 v10' v11 v39 r8 x6) fun k1 =>
 bif decide (x6.1 < a1.At) then (bif decide (a1.At < x6.2) then (some ((Piece.mk (Label.mk (0 : Int) (0 : Int) (0 : Int) (0 : Int)) []), (Piece.mk (Label.mk (0 : Int) (0 : Int) (0 : Int) (0 : Int)) []), false))
 else k1)
 else k1)
 else (k0 (v10') v11)
def f69_8 (a0 : Piece) (a1 : Cut) (N : Nat) (v10 : List Label) (k0 : (List Label) → Int → Option (Piece × Piece × Bool)) : Nat → (List Label) → Int → Int → Option (Piece × Piece × Bool)
  | 0, _, _, _ => none
  | n + 1, v10', v11, v39 => f69_8b (f69_8 a0 a1 N v10 k0 n) a0 a1 N v10 k0 v10' v11 v39
def Sf69_8 : Ann := ⟨[2, 3, 4, 5, 7, 10, 11, 38, 39], [0, 1, 2, 3, 90010], [(.slot 10, 90010, 50, 4)], []⟩
def Vf69_8 (a0 : Piece) (a1 : Cut) (v10 : List Label) (v10' : List Label) (v11 : Int) (v39 : Int) : List SV := [.ptr 0 0, .ptr 1 0, .ptr 2 0, .ptr 3 0, .dat (.v (.func (.func 53) #[] #[])), .rs 90010 (List.length (v10')), .dat (iN v11), .dat (iN (List.length v10 : Int)), .dat (iN v39)]
def Bf69_8 (a0 : Piece) (a1 : Cut) (v10 : List Label) (v10' : List Label) (v11 : Int) (v39 : Int) : List Blk := [.box [.dat (iN a0.Label_.X), .dat (iN a0.Label_.Y), .dat (iN a0.Label_.W), .dat (iN a0.Label_.H), .dat (sl_Label a0.labels)], .box [.kb a1.Up, .dat (iN a1.At)], .box [.dat (iN (0 : Int)), .dat (iN (0 : Int)), .dat (iN (0 : Int)), .dat (iN (0 : Int)), .nil], .box [.dat (iN (0 : Int)), .dat (iN (0 : Int)), .dat (iN (0 : Int)), .dat (iN (0 : Int)), .nil], .row 50 4 (List.map Label.d (v10'))]
def Yf69_8 (a0 : Piece) (a1 : Cut) (v10 : List Label) (y : Nat × (List Label) × Int × Int) : List SV := Vf69_8 a0 a1 v10 y.2.1 y.2.2.1 y.2.2.2
def Xf69_8 (a0 : Piece) (a1 : Cut) (v10 : List Label) (y : Nat × (List Label) × Int × Int) : List Blk := Bf69_8 a0 a1 v10 y.2.1 y.2.2.1 y.2.2.2
def Jf69_8 (a0 : Piece) (a1 : Cut) (N : Nat) (v10 : List Label) (k0 : (List Label) → Int → Option (Piece × Piece × Bool)) (r : Piece × Piece × Bool) (y : Nat × (List Label) × Int × Int) : Prop := f69_8 a0 a1 N v10 k0 y.1 y.2.1 y.2.2.1 y.2.2.2 = some r
def V2f69_8 (a0 : Piece) (a1 : Cut) (v10 : List Label) (v10' : List Label) (v11 : Int) (v39 : Int) (m0 : Nat) : List SV := [.ptr 0 0, .ptr 1 0, .ptr 2 0, .ptr 3 0, .dat (.v (.func (.func 53) #[] #[])), .rs 90010 m0, .dat (iN v11), .dat (iN (List.length v10 : Int)), .dat (iN v39)]
def B2f69_8 (a0 : Piece) (a1 : Cut) (v10 : List Label) (v10' : List Label) (v11 : Int) (v39 : Int) (m0 : Nat) : List Blk := [.box [.dat (iN a0.Label_.X), .dat (iN a0.Label_.Y), .dat (iN a0.Label_.W), .dat (iN a0.Label_.H), .dat (sl_Label a0.labels)], .box [.kb a1.Up, .dat (iN a1.At)], .box [.dat (iN (0 : Int)), .dat (iN (0 : Int)), .dat (iN (0 : Int)), .dat (iN (0 : Int)), .nil], .box [.dat (iN (0 : Int)), .dat (iN (0 : Int)), .dat (iN (0 : Int)), .dat (iN (0 : Int)), .nil], .row 50 4 (List.map Label.d (v10'))]
theorem Lf69_8 {r : Piece × Piece × Bool} {a0 : Piece} {a1 : Cut} {N : Nat} {v10 : List Label} {k0 : (List Label) → Int → Option (Piece × Piece × Bool)} {fu : Nat} {v10' : List Label} {v11 : Int} {v39 : Int} {m0 : Nat} (hz : Sf69_8.ok p = true) (h0 : AtH Sf69_8 st (V2f69_8 a0 a1 v10 v10' v11 v39 m0) (B2f69_8 a0 a1 v10 v10' v11 v39 m0)) (em0 : m0 = List.length (v10')) (h : ∀ (n : Nat) (v10' : List Label) (v11 : Int) (v39 : Int), f69_8b (f69_8 a0 a1 N v10 k0 n) a0 a1 N v10 k0 v10' v11 v39 = some r → vc c p nid a (St.mk' Sf69_8 (Vf69_8 a0 a1 v10 v10' v11 v39) (Bf69_8 a0 a1 v10 v10' v11 v39)) (Kloop Sf69_8 (Yf69_8 a0 a1 v10) (Xf69_8 a0 a1 v10) (Jf69_8 a0 a1 N v10 k0 r) Prod.fst (n + 1, v10', v11, v39) K)) (hF : f69_8 a0 a1 N v10 k0 fu v10' v11 v39 = some r) : vc c p nid (.loop a) st K := by
  subst em0; refine vc_loop Sf69_8 (Yf69_8 a0 a1 v10) (Xf69_8 a0 a1 v10) (Jf69_8 a0 a1 N v10 k0 r) Prod.fst hz (kheadL (x := (fu, v10', v11, v39)) hF h0) ?_
  rintro ⟨_ | n, v10', v11, v39⟩ hI
  · cases hI
  · exact h n v10' v11 v39 hI
theorem Mf69_8 {r : Piece × Piece × Bool} {a0 : Piece} {a1 : Cut} {N : Nat} {v10 : List Label} {k0 : (List Label) → Int → Option (Piece × Piece × Bool)} {n : Nat} {v10' : List Label} {v11 : Int} {v39 : Int} {v10'_ : List Label} {v11_ : Int} {v39_ : Int} {m0 : Nat} (hF : f69_8 a0 a1 N v10 k0 n v10' v11 v39 = some r) (h0 : AtH Sf69_8 st (V2f69_8 a0 a1 v10 v10' v11 v39 m0) (B2f69_8 a0 a1 v10 v10' v11 v39 m0)) (em0 : m0 = List.length (v10')) : Kloop Sf69_8 (Yf69_8 a0 a1 v10) (Xf69_8 a0 a1 v10) (Jf69_8 a0 a1 N v10 k0 r) Prod.fst (n + 1, v10'_, v11_, v39_) K .normal st := by
  subst em0; exact kback (y := (n, v10', v11, v39)) hF (Nat.lt_succ_self n) h0
def f69_c6 (a0 : Piece) (a1 : Cut) (N : Nat) (v10 : List Label) : Option (Piece × Piece × Bool) :=
 joinK (f69_c17 a0 a1) fun k0 =>
 f69_8 a0 a1 N v10 k0 N v10 (0 : Int) (0 : Int)
def Sf69_c6 : Ann := ⟨[2, 3, 4, 5, 7, 10], [0, 1, 2, 3, 90010], [(.slot 10, 90010, 50, 4)], []⟩
def Vf69_c6 (a0 : Piece) (a1 : Cut) (v10 : List Label) : List SV := [.ptr 0 0, .ptr 1 0, .ptr 2 0, .ptr 3 0, .dat (.v (.func (.func 53) #[] #[])), .rs 90010 (List.length v10)]
def Bf69_c6 (a0 : Piece) (a1 : Cut) (v10 : List Label) : List Blk := [.box [.dat (iN a0.Label_.X), .dat (iN a0.Label_.Y), .dat (iN a0.Label_.W), .dat (iN a0.Label_.H), .dat (sl_Label a0.labels)], .box [.kb a1.Up, .dat (iN a1.At)], .box [.dat (iN (0 : Int)), .dat (iN (0 : Int)), .dat (iN (0 : Int)), .dat (iN (0 : Int)), .nil], .box [.dat (iN (0 : Int)), .dat (iN (0 : Int)), .dat (iN (0 : Int)), .dat (iN (0 : Int)), .nil], .row 50 4 (List.map Label.d v10)]
def Yf69_c6 (a0 : Piece) (a1 : Cut) (y : (List Label)) : List SV := Vf69_c6 a0 a1 y
def Xf69_c6 (a0 : Piece) (a1 : Cut) (y : (List Label)) : List Blk := Bf69_c6 a0 a1 y
def Jf69_c6 (a0 : Piece) (a1 : Cut) (N : Nat) (r : Piece × Piece × Bool) (y : (List Label)) : Prop := f69_c6 a0 a1 N y = some r
def V2f69_c6 (a0 : Piece) (a1 : Cut) (v10 : List Label) (m0 : Nat) : List SV := [.ptr 0 0, .ptr 1 0, .ptr 2 0, .ptr 3 0, .dat (.v (.func (.func 53) #[] #[])), .rs 90010 m0]
def B2f69_c6 (a0 : Piece) (a1 : Cut) (v10 : List Label) (m0 : Nat) : List Blk := [.box [.dat (iN a0.Label_.X), .dat (iN a0.Label_.Y), .dat (iN a0.Label_.W), .dat (iN a0.Label_.H), .dat (sl_Label a0.labels)], .box [.kb a1.Up, .dat (iN a1.At)], .box [.dat (iN (0 : Int)), .dat (iN (0 : Int)), .dat (iN (0 : Int)), .dat (iN (0 : Int)), .nil], .box [.dat (iN (0 : Int)), .dat (iN (0 : Int)), .dat (iN (0 : Int)), .dat (iN (0 : Int)), .nil], .row 50 4 (List.map Label.d v10)]
theorem Cf69_c6 {r : Piece × Piece × Bool} {a0 : Piece} {a1 : Cut} {N : Nat} {g : _ → Option (Piece × Piece × Bool)} (hn : Nat.beq (nid * 1000 + firstRegion b) 6 = true) (hz : Sf69_c6.ok p = true) (h : g (f69_c6 a0 a1 N) = some r → vc c p nid a st (KHead Sf69_c6 (Yf69_c6 a0 a1) (Xf69_c6 a0 a1) (Jf69_c6 a0 a1 N r) K)) (h2 : ∀ (v10 : List Label), f69_c6 a0 a1 N v10 = some r → vc c p nid b (St.mk' Sf69_c6 (Vf69_c6 a0 a1 v10) (Bf69_c6 a0 a1 v10)) K) (hF : joinK (f69_c6 a0 a1 N) g = some r) : vc c p nid (.seq a b) st K :=
  vc_cut Sf69_c6 (Yf69_c6 a0 a1) (Xf69_c6 a0 a1) (Jf69_c6 a0 a1 N r) hz (h hF) fun y hy => h2 y hy
theorem Zf69_c6 {r : Piece × Piece × Bool} {a0 : Piece} {a1 : Cut} {N : Nat} {v10 : List Label} {m0 : Nat} (hF : f69_c6 a0 a1 N v10 = some r) (h0 : AtH Sf69_c6 st (V2f69_c6 a0 a1 v10 m0) (B2f69_c6 a0 a1 v10 m0)) (em0 : m0 = List.length v10) : KHead Sf69_c6 (Yf69_c6 a0 a1) (Xf69_c6 a0 a1) (Jf69_c6 a0 a1 N r) K .normal st := by
  subst em0; exact khead (I := (Jf69_c6 a0 a1 N r)) (x := (v10)) hF h0
def f69_c17_1 (a0 : Piece) (a1 : Cut) (v10' : List Label) (v11 : Int) : Option (Piece × Piece × Bool) :=
 (sub (v10') 0 v11).bind fun x16 =>
 (sub (v10') v11 (List.length (v10') : Int)).bind fun x17 =>
 bif decide ((0 : Int) < v11) then (some ((Piece.mk (Label.mk a0.Label_.X a0.Label_.Y a0.Label_.W (W (a1.At - a0.Label_.Y))) x16), (Piece.mk (Label.mk a0.Label_.X a1.At a0.Label_.W (W ((W (a0.Label_.Y + a0.Label_.H)) - a1.At))) x17), decide (v11 < (List.length (v10') : Int))))
 else (some ((Piece.mk (Label.mk a0.Label_.X a0.Label_.Y a0.Label_.W (W (a1.At - a0.Label_.Y))) x16), (Piece.mk (Label.mk a0.Label_.X a1.At a0.Label_.W (W ((W (a0.Label_.Y + a0.Label_.H)) - a1.At))) x17), false))
def Sf69_c17_1 : Ann := ⟨[2, 3, 4, 5, 10, 11], [0, 1, 2, 3, 90010], [(.slot 10, 90010, 50, 4)], [90010]⟩
def Vf69_c17_1 (a0 : Piece) (a1 : Cut) (v10' : List Label) (v11 : Int) : List SV := [.ptr 0 0, .ptr 1 0, .ptr 2 0, .ptr 3 0, .rs 90010 (List.length (v10')), .dat (iN v11)]
def Bf69_c17_1 (a0 : Piece) (a1 : Cut) (v10' : List Label) (v11 : Int) : List Blk := [.box [.dat (iN a0.Label_.X), .dat (iN a0.Label_.Y), .dat (iN a0.Label_.W), .dat (iN a0.Label_.H), .dat (sl_Label a0.labels)], .box [.kb a1.Up, .dat (iN a1.At)], .box [.dat (iN (0 : Int)), .dat (iN (0 : Int)), .dat (iN (0 : Int)), .dat (iN (0 : Int)), .nil], .box [.dat (iN (0 : Int)), .dat (iN (0 : Int)), .dat (iN (0 : Int)), .dat (iN (0 : Int)), .nil], .fz 50 4 (List.map Label.d (v10'))]
def Yf69_c17_1 (a0 : Piece) (a1 : Cut) (y : (List Label) × Int) : List SV := Vf69_c17_1 a0 a1 y.1 y.2
def Xf69_c17_1 (a0 : Piece) (a1 : Cut) (y : (List Label) × Int) : List Blk := Bf69_c17_1 a0 a1 y.1 y.2
def Jf69_c17_1 (a0 : Piece) (a1 : Cut) (r : Piece × Piece × Bool) (y : (List Label) × Int) : Prop := f69_c17_1 a0 a1 y.1 y.2 = some r
def V2f69_c17_1 (a0 : Piece) (a1 : Cut) (v10' : List Label) (v11 : Int) (m0 : Nat) : List SV := [.ptr 0 0, .ptr 1 0, .ptr 2 0, .ptr 3 0, .rs 90010 m0, .dat (iN v11)]
def B2f69_c17_1 (a0 : Piece) (a1 : Cut) (v10' : List Label) (v11 : Int) (m0 : Nat) : List Blk := [.box [.dat (iN a0.Label_.X), .dat (iN a0.Label_.Y), .dat (iN a0.Label_.W), .dat (iN a0.Label_.H), .dat (sl_Label a0.labels)], .box [.kb a1.Up, .dat (iN a1.At)], .box [.dat (iN (0 : Int)), .dat (iN (0 : Int)), .dat (iN (0 : Int)), .dat (iN (0 : Int)), .nil], .box [.dat (iN (0 : Int)), .dat (iN (0 : Int)), .dat (iN (0 : Int)), .dat (iN (0 : Int)), .nil], .fz 50 4 (List.map Label.d (v10'))]
theorem Cf69_c17_1 {r : Piece × Piece × Bool} {a0 : Piece} {a1 : Cut} {g : _ → Option (Piece × Piece × Bool)} (hn : Nat.beq (nid * 1000 + firstRegion b) 17 = true) (hz : Sf69_c17_1.ok p = true) (h : g (f69_c17_1 a0 a1) = some r → vc c p nid a st (KHead Sf69_c17_1 (Yf69_c17_1 a0 a1) (Xf69_c17_1 a0 a1) (Jf69_c17_1 a0 a1 r) K)) (h2 : ∀ (v10' : List Label) (v11 : Int), f69_c17_1 a0 a1 v10' v11 = some r → vc c p nid b (St.mk' Sf69_c17_1 (Vf69_c17_1 a0 a1 v10' v11) (Bf69_c17_1 a0 a1 v10' v11)) K) (hF : joinK (f69_c17_1 a0 a1) g = some r) : vc c p nid (.seq a b) st K :=
  vc_cut Sf69_c17_1 (Yf69_c17_1 a0 a1) (Xf69_c17_1 a0 a1) (Jf69_c17_1 a0 a1 r) hz (h hF) fun y hy => h2 y.1 y.2 hy
theorem Zf69_c17_1 {r : Piece × Piece × Bool} {a0 : Piece} {a1 : Cut} {v10' : List Label} {v11 : Int} {m0 : Nat} (hF : f69_c17_1 a0 a1 v10' v11 = some r) (h0 : AtH Sf69_c17_1 st (V2f69_c17_1 a0 a1 v10' v11 m0) (B2f69_c17_1 a0 a1 v10' v11 m0)) (em0 : m0 = List.length (v10')) : KHead Sf69_c17_1 (Yf69_c17_1 a0 a1) (Xf69_c17_1 a0 a1) (Jf69_c17_1 a0 a1 r) K .normal st := by
  subst em0; exact khead (I := (Jf69_c17_1 a0 a1 r)) (x := (v10', v11)) hF h0
def f69_c13_1 (a0 : Piece) (a1 : Cut) (v10 : List Label) (v10' : List Label) (v11 : Int) (v39 : Int) (r8 : (List Label) → Int → Int → Option (Piece × Piece × Bool)) (x19 : Int × Int) : Option (Piece × Piece × Bool) :=
 bif decide (x19.2 ≤ a1.At) then ((ix (v10') v11).bind fun x20 =>
 (ix (v10') v39).bind fun x21 =>
 (ix (v10') v39).bind fun x22 =>
 (setx (v10') v39 x20).bind fun x23 =>
 (ix x23 v11).bind fun x24 =>
 (setx x23 v11 x21).bind fun x25 =>
 r8 x25 (W (v11 + (1 : Int))) (W (v39 + (1 : Int))))
 else (r8 (v10') v11 (W (v39 + (1 : Int))))
def Sf69_c13_1 : Ann := ⟨[2, 3, 4, 5, 7, 10, 11, 12, 14, 38, 39], [0, 1, 2, 3, 90010], [], []⟩
def Vf69_c13_1 (a0 : Piece) (a1 : Cut) (v10 : List Label) (v10' : List Label) (v11 : Int) (v39 : Int) (x19 : Int × Int) : List SV := [.ptr 0 0, .ptr 1 0, .ptr 2 0, .ptr 3 0, .dat (.v (.func (.func 55) #[] #[])), .rs 90010 (List.length (v10')), .dat (iN v11), .dat (iN v39), .dat (iN x19.2), .dat (iN (List.length v10 : Int)), .dat (iN v39)]
def Bf69_c13_1 (a0 : Piece) (a1 : Cut) (v10 : List Label) (v10' : List Label) (v11 : Int) (v39 : Int) (x19 : Int × Int) : List Blk := [.box [.dat (iN a0.Label_.X), .dat (iN a0.Label_.Y), .dat (iN a0.Label_.W), .dat (iN a0.Label_.H), .dat (sl_Label a0.labels)], .box [.kb a1.Up, .dat (iN a1.At)], .box [.dat (iN (0 : Int)), .dat (iN (0 : Int)), .dat (iN (0 : Int)), .dat (iN (0 : Int)), .nil], .box [.dat (iN (0 : Int)), .dat (iN (0 : Int)), .dat (iN (0 : Int)), .dat (iN (0 : Int)), .nil], .row 50 4 (List.map Label.d (v10'))]
def Yf69_c13_1 (a0 : Piece) (a1 : Cut) (v10 : List Label) (v10' : List Label) (v11 : Int) (v39 : Int) (x19 : Int × Int) (y : Unit) : List SV := Vf69_c13_1 a0 a1 v10 v10' v11 v39 x19
def Xf69_c13_1 (a0 : Piece) (a1 : Cut) (v10 : List Label) (v10' : List Label) (v11 : Int) (v39 : Int) (x19 : Int × Int) (y : Unit) : List Blk := Bf69_c13_1 a0 a1 v10 v10' v11 v39 x19
def Jf69_c13_1 (a0 : Piece) (a1 : Cut) (v10 : List Label) (v10' : List Label) (v11 : Int) (v39 : Int) (r8 : (List Label) → Int → Int → Option (Piece × Piece × Bool)) (x19 : Int × Int) (r : Piece × Piece × Bool) (y : Unit) : Prop := f69_c13_1 a0 a1 v10 v10' v11 v39 r8 x19 = some r
def V2f69_c13_1 (a0 : Piece) (a1 : Cut) (v10 : List Label) (v10' : List Label) (v11 : Int) (v39 : Int) (x19 : Int × Int) (m0 : Nat) : List SV := [.ptr 0 0, .ptr 1 0, .ptr 2 0, .ptr 3 0, .dat (.v (.func (.func 55) #[] #[])), .rs 90010 m0, .dat (iN v11), .dat (iN v39), .dat (iN x19.2), .dat (iN (List.length v10 : Int)), .dat (iN v39)]
def B2f69_c13_1 (a0 : Piece) (a1 : Cut) (v10 : List Label) (v10' : List Label) (v11 : Int) (v39 : Int) (x19 : Int × Int) (m0 : Nat) : List Blk := [.box [.dat (iN a0.Label_.X), .dat (iN a0.Label_.Y), .dat (iN a0.Label_.W), .dat (iN a0.Label_.H), .dat (sl_Label a0.labels)], .box [.kb a1.Up, .dat (iN a1.At)], .box [.dat (iN (0 : Int)), .dat (iN (0 : Int)), .dat (iN (0 : Int)), .dat (iN (0 : Int)), .nil], .box [.dat (iN (0 : Int)), .dat (iN (0 : Int)), .dat (iN (0 : Int)), .dat (iN (0 : Int)), .nil], .row 50 4 (List.map Label.d (v10'))]
theorem Cf69_c13_1 {r : Piece × Piece × Bool} {a0 : Piece} {a1 : Cut} {v10 : List Label} {v10' : List Label} {v11 : Int} {v39 : Int} {r8 : (List Label) → Int → Int → Option (Piece × Piece × Bool)} {x19 : Int × Int} {g : _ → Option (Piece × Piece × Bool)} (hn : Nat.beq (nid * 1000 + firstRegion b) 13 = true) (hz : Sf69_c13_1.ok p = true) (h : g (f69_c13_1 a0 a1 v10 v10' v11 v39 r8 x19) = some r → vc c p nid a st (KHead Sf69_c13_1 (Yf69_c13_1 a0 a1 v10 v10' v11 v39 x19) (Xf69_c13_1 a0 a1 v10 v10' v11 v39 x19) (Jf69_c13_1 a0 a1 v10 v10' v11 v39 r8 x19 r) K)) (h2 : ∀ (_ : Unit), f69_c13_1 a0 a1 v10 v10' v11 v39 r8 x19 = some r → vc c p nid b (St.mk' Sf69_c13_1 (Vf69_c13_1 a0 a1 v10 v10' v11 v39 x19) (Bf69_c13_1 a0 a1 v10 v10' v11 v39 x19)) K) (hF : joinK (f69_c13_1 a0 a1 v10 v10' v11 v39 r8 x19) g = some r) : vc c p nid (.seq a b) st K :=
  vc_cut Sf69_c13_1 (Yf69_c13_1 a0 a1 v10 v10' v11 v39 x19) (Xf69_c13_1 a0 a1 v10 v10' v11 v39 x19) (Jf69_c13_1 a0 a1 v10 v10' v11 v39 r8 x19 r) hz (h hF) fun y hy => h2 () hy
theorem Zf69_c13_1 {r : Piece × Piece × Bool} {a0 : Piece} {a1 : Cut} {v10 : List Label} {v10' : List Label} {v11 : Int} {v39 : Int} {r8 : (List Label) → Int → Int → Option (Piece × Piece × Bool)} {x19 : Int × Int} {m0 : Nat} (hF : f69_c13_1 a0 a1 v10 v10' v11 v39 r8 x19 = some r) (h0 : AtH Sf69_c13_1 st (V2f69_c13_1 a0 a1 v10 v10' v11 v39 x19 m0) (B2f69_c13_1 a0 a1 v10 v10' v11 v39 x19 m0)) (em0 : m0 = List.length (v10')) : KHead Sf69_c13_1 (Yf69_c13_1 a0 a1 v10 v10' v11 v39 x19) (Xf69_c13_1 a0 a1 v10 v10' v11 v39 x19) (Jf69_c13_1 a0 a1 v10 v10' v11 v39 r8 x19 r) K .normal st := by
  subst em0; exact khead (I := (Jf69_c13_1 a0 a1 v10 v10' v11 v39 r8 x19 r)) (x := ()) hF h0
def f69_8_1b (r8 : (List Label) → Int → Int → Option (Piece × Piece × Bool)) (a0 : Piece) (a1 : Cut) (N : Nat) (v10 : List Label) (k3 : (List Label) → Int → Option (Piece × Piece × Bool)) (v10' : List Label) (v11 : Int) (v39 : Int) : Option (Piece × Piece × Bool) :=
 bif decide (v39 < (List.length v10 : Int)) then ((ix (v10') v39).bind fun x18 =>
 (f55 N x18).bind fun x19 =>
 joinK (f69_c13_1 a0 a1 v10 v10' v11 v39 r8 x19) fun k4 =>
 bif decide (x19.1 < a1.At) then (bif decide (a1.At < x19.2) then (some ((Piece.mk (Label.mk (0 : Int) (0 : Int) (0 : Int) (0 : Int)) []), (Piece.mk (Label.mk (0 : Int) (0 : Int) (0 : Int) (0 : Int)) []), false))
 else k4)
 else k4)
 else (k3 (v10') v11)
def f69_8_1 (a0 : Piece) (a1 : Cut) (N : Nat) (v10 : List Label) (k3 : (List Label) → Int → Option (Piece × Piece × Bool)) : Nat → (List Label) → Int → Int → Option (Piece × Piece × Bool)
  | 0, _, _, _ => none
  | n + 1, v10', v11, v39 => f69_8_1b (f69_8_1 a0 a1 N v10 k3 n) a0 a1 N v10 k3 v10' v11 v39
def Sf69_8_1 : Ann := ⟨[2, 3, 4, 5, 7, 10, 11, 38, 39], [0, 1, 2, 3, 90010], [(.slot 10, 90010, 50, 4)], []⟩
def Vf69_8_1 (a0 : Piece) (a1 : Cut) (v10 : List Label) (v10' : List Label) (v11 : Int) (v39 : Int) : List SV := [.ptr 0 0, .ptr 1 0, .ptr 2 0, .ptr 3 0, .dat (.v (.func (.func 55) #[] #[])), .rs 90010 (List.length (v10')), .dat (iN v11), .dat (iN (List.length v10 : Int)), .dat (iN v39)]
def Bf69_8_1 (a0 : Piece) (a1 : Cut) (v10 : List Label) (v10' : List Label) (v11 : Int) (v39 : Int) : List Blk := [.box [.dat (iN a0.Label_.X), .dat (iN a0.Label_.Y), .dat (iN a0.Label_.W), .dat (iN a0.Label_.H), .dat (sl_Label a0.labels)], .box [.kb a1.Up, .dat (iN a1.At)], .box [.dat (iN (0 : Int)), .dat (iN (0 : Int)), .dat (iN (0 : Int)), .dat (iN (0 : Int)), .nil], .box [.dat (iN (0 : Int)), .dat (iN (0 : Int)), .dat (iN (0 : Int)), .dat (iN (0 : Int)), .nil], .row 50 4 (List.map Label.d (v10'))]
def Yf69_8_1 (a0 : Piece) (a1 : Cut) (v10 : List Label) (y : Nat × (List Label) × Int × Int) : List SV := Vf69_8_1 a0 a1 v10 y.2.1 y.2.2.1 y.2.2.2
def Xf69_8_1 (a0 : Piece) (a1 : Cut) (v10 : List Label) (y : Nat × (List Label) × Int × Int) : List Blk := Bf69_8_1 a0 a1 v10 y.2.1 y.2.2.1 y.2.2.2
def Jf69_8_1 (a0 : Piece) (a1 : Cut) (N : Nat) (v10 : List Label) (k3 : (List Label) → Int → Option (Piece × Piece × Bool)) (r : Piece × Piece × Bool) (y : Nat × (List Label) × Int × Int) : Prop := f69_8_1 a0 a1 N v10 k3 y.1 y.2.1 y.2.2.1 y.2.2.2 = some r
def V2f69_8_1 (a0 : Piece) (a1 : Cut) (v10 : List Label) (v10' : List Label) (v11 : Int) (v39 : Int) (m0 : Nat) : List SV := [.ptr 0 0, .ptr 1 0, .ptr 2 0, .ptr 3 0, .dat (.v (.func (.func 55) #[] #[])), .rs 90010 m0, .dat (iN v11), .dat (iN (List.length v10 : Int)), .dat (iN v39)]
def B2f69_8_1 (a0 : Piece) (a1 : Cut) (v10 : List Label) (v10' : List Label) (v11 : Int) (v39 : Int) (m0 : Nat) : List Blk := [.box [.dat (iN a0.Label_.X), .dat (iN a0.Label_.Y), .dat (iN a0.Label_.W), .dat (iN a0.Label_.H), .dat (sl_Label a0.labels)], .box [.kb a1.Up, .dat (iN a1.At)], .box [.dat (iN (0 : Int)), .dat (iN (0 : Int)), .dat (iN (0 : Int)), .dat (iN (0 : Int)), .nil], .box [.dat (iN (0 : Int)), .dat (iN (0 : Int)), .dat (iN (0 : Int)), .dat (iN (0 : Int)), .nil], .row 50 4 (List.map Label.d (v10'))]
theorem Lf69_8_1 {r : Piece × Piece × Bool} {a0 : Piece} {a1 : Cut} {N : Nat} {v10 : List Label} {k3 : (List Label) → Int → Option (Piece × Piece × Bool)} {fu : Nat} {v10' : List Label} {v11 : Int} {v39 : Int} {m0 : Nat} (hz : Sf69_8_1.ok p = true) (h0 : AtH Sf69_8_1 st (V2f69_8_1 a0 a1 v10 v10' v11 v39 m0) (B2f69_8_1 a0 a1 v10 v10' v11 v39 m0)) (em0 : m0 = List.length (v10')) (h : ∀ (n : Nat) (v10' : List Label) (v11 : Int) (v39 : Int), f69_8_1b (f69_8_1 a0 a1 N v10 k3 n) a0 a1 N v10 k3 v10' v11 v39 = some r → vc c p nid a (St.mk' Sf69_8_1 (Vf69_8_1 a0 a1 v10 v10' v11 v39) (Bf69_8_1 a0 a1 v10 v10' v11 v39)) (Kloop Sf69_8_1 (Yf69_8_1 a0 a1 v10) (Xf69_8_1 a0 a1 v10) (Jf69_8_1 a0 a1 N v10 k3 r) Prod.fst (n + 1, v10', v11, v39) K)) (hF : f69_8_1 a0 a1 N v10 k3 fu v10' v11 v39 = some r) : vc c p nid (.loop a) st K := by
  subst em0; refine vc_loop Sf69_8_1 (Yf69_8_1 a0 a1 v10) (Xf69_8_1 a0 a1 v10) (Jf69_8_1 a0 a1 N v10 k3 r) Prod.fst hz (kheadL (x := (fu, v10', v11, v39)) hF h0) ?_
  rintro ⟨_ | n, v10', v11, v39⟩ hI
  · cases hI
  · exact h n v10' v11 v39 hI
theorem Mf69_8_1 {r : Piece × Piece × Bool} {a0 : Piece} {a1 : Cut} {N : Nat} {v10 : List Label} {k3 : (List Label) → Int → Option (Piece × Piece × Bool)} {n : Nat} {v10' : List Label} {v11 : Int} {v39 : Int} {v10'_ : List Label} {v11_ : Int} {v39_ : Int} {m0 : Nat} (hF : f69_8_1 a0 a1 N v10 k3 n v10' v11 v39 = some r) (h0 : AtH Sf69_8_1 st (V2f69_8_1 a0 a1 v10 v10' v11 v39 m0) (B2f69_8_1 a0 a1 v10 v10' v11 v39 m0)) (em0 : m0 = List.length (v10')) : Kloop Sf69_8_1 (Yf69_8_1 a0 a1 v10) (Xf69_8_1 a0 a1 v10) (Jf69_8_1 a0 a1 N v10 k3 r) Prod.fst (n + 1, v10'_, v11_, v39_) K .normal st := by
  subst em0; exact kback (y := (n, v10', v11, v39)) hF (Nat.lt_succ_self n) h0
def f69_c6_1 (a0 : Piece) (a1 : Cut) (N : Nat) (v10 : List Label) : Option (Piece × Piece × Bool) :=
 joinK (f69_c17_1 a0 a1) fun k3 =>
 f69_8_1 a0 a1 N v10 k3 N v10 (0 : Int) (0 : Int)
def Sf69_c6_1 : Ann := ⟨[2, 3, 4, 5, 7, 10], [0, 1, 2, 3, 90010], [(.slot 10, 90010, 50, 4)], []⟩
def Vf69_c6_1 (a0 : Piece) (a1 : Cut) (v10 : List Label) : List SV := [.ptr 0 0, .ptr 1 0, .ptr 2 0, .ptr 3 0, .dat (.v (.func (.func 55) #[] #[])), .rs 90010 (List.length v10)]
def Bf69_c6_1 (a0 : Piece) (a1 : Cut) (v10 : List Label) : List Blk := [.box [.dat (iN a0.Label_.X), .dat (iN a0.Label_.Y), .dat (iN a0.Label_.W), .dat (iN a0.Label_.H), .dat (sl_Label a0.labels)], .box [.kb a1.Up, .dat (iN a1.At)], .box [.dat (iN (0 : Int)), .dat (iN (0 : Int)), .dat (iN (0 : Int)), .dat (iN (0 : Int)), .nil], .box [.dat (iN (0 : Int)), .dat (iN (0 : Int)), .dat (iN (0 : Int)), .dat (iN (0 : Int)), .nil], .row 50 4 (List.map Label.d v10)]
def Yf69_c6_1 (a0 : Piece) (a1 : Cut) (y : (List Label)) : List SV := Vf69_c6_1 a0 a1 y
def Xf69_c6_1 (a0 : Piece) (a1 : Cut) (y : (List Label)) : List Blk := Bf69_c6_1 a0 a1 y
def Jf69_c6_1 (a0 : Piece) (a1 : Cut) (N : Nat) (r : Piece × Piece × Bool) (y : (List Label)) : Prop := f69_c6_1 a0 a1 N y = some r
def V2f69_c6_1 (a0 : Piece) (a1 : Cut) (v10 : List Label) (m0 : Nat) : List SV := [.ptr 0 0, .ptr 1 0, .ptr 2 0, .ptr 3 0, .dat (.v (.func (.func 55) #[] #[])), .rs 90010 m0]
def B2f69_c6_1 (a0 : Piece) (a1 : Cut) (v10 : List Label) (m0 : Nat) : List Blk := [.box [.dat (iN a0.Label_.X), .dat (iN a0.Label_.Y), .dat (iN a0.Label_.W), .dat (iN a0.Label_.H), .dat (sl_Label a0.labels)], .box [.kb a1.Up, .dat (iN a1.At)], .box [.dat (iN (0 : Int)), .dat (iN (0 : Int)), .dat (iN (0 : Int)), .dat (iN (0 : Int)), .nil], .box [.dat (iN (0 : Int)), .dat (iN (0 : Int)), .dat (iN (0 : Int)), .dat (iN (0 : Int)), .nil], .row 50 4 (List.map Label.d v10)]
theorem Cf69_c6_1 {r : Piece × Piece × Bool} {a0 : Piece} {a1 : Cut} {N : Nat} {g : _ → Option (Piece × Piece × Bool)} (hn : Nat.beq (nid * 1000 + firstRegion b) 6 = true) (hz : Sf69_c6_1.ok p = true) (h : g (f69_c6_1 a0 a1 N) = some r → vc c p nid a st (KHead Sf69_c6_1 (Yf69_c6_1 a0 a1) (Xf69_c6_1 a0 a1) (Jf69_c6_1 a0 a1 N r) K)) (h2 : ∀ (v10 : List Label), f69_c6_1 a0 a1 N v10 = some r → vc c p nid b (St.mk' Sf69_c6_1 (Vf69_c6_1 a0 a1 v10) (Bf69_c6_1 a0 a1 v10)) K) (hF : joinK (f69_c6_1 a0 a1 N) g = some r) : vc c p nid (.seq a b) st K :=
  vc_cut Sf69_c6_1 (Yf69_c6_1 a0 a1) (Xf69_c6_1 a0 a1) (Jf69_c6_1 a0 a1 N r) hz (h hF) fun y hy => h2 y hy
theorem Zf69_c6_1 {r : Piece × Piece × Bool} {a0 : Piece} {a1 : Cut} {N : Nat} {v10 : List Label} {m0 : Nat} (hF : f69_c6_1 a0 a1 N v10 = some r) (h0 : AtH Sf69_c6_1 st (V2f69_c6_1 a0 a1 v10 m0) (B2f69_c6_1 a0 a1 v10 m0)) (em0 : m0 = List.length v10) : KHead Sf69_c6_1 (Yf69_c6_1 a0 a1) (Xf69_c6_1 a0 a1) (Jf69_c6_1 a0 a1 N r) K .normal st := by
  subst em0; exact khead (I := (Jf69_c6_1 a0 a1 N r)) (x := (v10)) hF h0
def f69 (N : Nat) (a0 : Piece) (a1 : Cut) : Option (Piece × Piece × Bool) :=
 bif a1.Up then ((f53 N a0.Label_).bind fun x1 =>
 (f52 N (W (x1.1 + (1 : Int))) a1.At (W (x1.2 - (1 : Int)))).bind fun x2 =>
 bif !x2 then (some ((Piece.mk (Label.mk (0 : Int) (0 : Int) (0 : Int) (0 : Int)) []), (Piece.mk (Label.mk (0 : Int) (0 : Int) (0 : Int) (0 : Int)) []), false))
 else (joinK (f69_c6 a0 a1 N) fun k2 =>
 demB a0.labels (k2 [])
 ((app 32 [] a0.labels).bind fun x13 =>
 k2 x13)))
 else ((f55 N a0.Label_).bind fun x14 =>
 (f52 N (W (x14.1 + (1 : Int))) a1.At (W (x14.2 - (1 : Int)))).bind fun x15 =>
 bif !x15 then (some ((Piece.mk (Label.mk (0 : Int) (0 : Int) (0 : Int) (0 : Int)) []), (Piece.mk (Label.mk (0 : Int) (0 : Int) (0 : Int) (0 : Int)) []), false))
 else (joinK (f69_c6_1 a0 a1 N) fun k5 =>
 demB a0.labels (k5 [])
 ((app 32 [] a0.labels).bind fun x26 =>
 k5 x26)))
def G69 (ds : List D) (d : D) : Prop := ∃ (N : Nat) (a0 : Piece) (a1 : Cut) (r : Piece × Piece × Bool), ds = [Piece.d a0, Cut.d a1] ∧ f69 N a0 a1 = some r ∧ d = .tup [Piece.d r.1, Piece.d r.2.1, bN r.2.2]
theorem G69.step {N : Nat} {a0 : Piece} {a1 : Cut} {ρ : Type} {A : (Piece × Piece × Bool) → Option ρ} {q : ρ} {ds : List D} {K : D → Prop} (hd : ds = [Piece.d a0, Cut.d a1]) (h : ∀ r, A r = some q → K (.tup [Piece.d r.1, Piece.d r.2.1, bN r.2.2])) (hF : (f69 N a0 a1).bind A = some q) : ∃ d, G69 ds d ∧ K d := by
  obtain ⟨r, hr, hA⟩ := bind_some hF
  exact ⟨_, ⟨N, a0, a1, r, hd, hr, rfl⟩, h r hA⟩
set_option maxRecDepth 20000 in
set_option maxHeartbeats 4000000 in
theorem P69 : PureOK Try.prog 69 G69 := by
  refine pure_of_vc (c := mkCtx tyTree [(77, false, inlPg (mkCtx tyTree []) Try.f77), (76, false, inlPg (mkCtx tyTree []) Try.f76), (55, true, purePg [[0, 0, 0, 0]] G55), (53, true, purePg [[0, 0, 0, 0]] G53), (52, true, purePg [[0], [0], [0]] G52)]) rfl tyOK (ctx_eff (callable Try.func77 rfl rfl) (CallOK.inl rfl tyOK (ctx_nil) Try.func77 (by kernel_rfl)) (ctx_eff (callable Try.func76 rfl rfl) (CallOK.inl rfl tyOK (ctx_nil) Try.func76 (by kernel_rfl)) (ctx_cons (callable Try.func55 rfl rfl) P55 (ctx_cons (callable Try.func53 rfl rfl) P53 (ctx_cons (callable Try.func52 rfl rfl) P52 (ctx_nil)))))) [[0, 0, 0, 0, 4], [0, 0, 0, 0, 4], [0]] 2 Try.func69 rfl rfl (by decide) (by kernel_rfl) ?_
  rintro ds d ⟨N, a0, a1, r, rfl, hF, rfl⟩ hok
  clear hok
  refine ⟨rfl, ?_⟩
  show vc _ _ _ _ ⟨[(0, .dat (Piece.d a0)), (1, .dat (Cut.d a1))], []⟩ _
  unfold f69 at hF
  repeat' (first
    | ((with_reducible refine q0 _ _ ?_); clear Q q0 q1 q2)
    | ((with_reducible refine q1 _ _ _ _ ?_); clear Q q0 q1 q2)
    | ((with_reducible refine q2 _ _ _ ?_); clear Q q0 q1 q2)
    | ((with_reducible refine seq_op ?hx (fun Q q0 q1 q2 => ?_)); (case hx => exact rfl); conv => whnf)
    | ((with_reducible refine draw_op ?hx (fun Q q0 q1 q2 => ?_)); (case hx => exact rfl); conv => whnf)
    | ((with_reducible refine seq_op0 ?hx (fun Q q0 q1 q2 => ?_)); (case hx => exact rfl); conv => whnf)
    | ((with_reducible refine draw_op0 ?hx (fun Q q0 q1 q2 => ?_)); (case hx => exact rfl); conv => whnf)
    | ((with_reducible refine seq_off ?hx ?_); (case hx => exact rfl))
    | ((with_reducible refine seq_off0 ?hx ?_); (case hx => exact rfl))
    | ((with_reducible refine draw_off ?hx ?_); (case hx => exact rfl))
    | ((with_reducible refine draw_off0 ?hx ?_); (case hx => exact rfl))
    | ((with_reducible refine seq_id ?_); (first | ((refine seq_opK rfl ?hy (fun Q q0 q1 q2 => ?_)); (case hy => first | assumption | exact notT (by assumption) | exact rfl); conv => whnf) | ((refine seq_offK rfl ?hy ?_); (case hy => first | assumption | exact notF (by assumption) | exact rfl)) | ((refine seq_opK0 rfl ?hy (fun Q q0 q1 q2 => ?_)); (case hy => first | assumption | exact notT (by assumption) | exact rfl); conv => whnf) | ((refine seq_offK0 rfl ?hy ?_); (case hy => first | assumption | exact notF (by assumption) | exact rfl)) | (revert hF; (with_reducible refine seq_opF ?hx ?_ ?_); (case hx => exact rfl); (intro hc hF Q q0 q1 q2; conv => whnf); rotate_left; (intro hc hF); rotate_right) | (revert hF; (with_reducible refine seq_opN ?hx ?_ ?_); (case hx => exact rfl); (intro hc hF); rotate_left; (intro hc hF Q q0 q1 q2; conv => whnf); rotate_right) | (revert hF; (with_reducible refine seq_opF0 ?hx ?_ ?_); (case hx => exact rfl); (intro hc hF Q q0 q1 q2; conv => whnf); rotate_left; (intro hc hF); rotate_right) | (revert hF; (with_reducible refine seq_opN0 ?hx ?_ ?_); (case hx => exact rfl); (intro hc hF); rotate_left; (intro hc hF Q q0 q1 q2; conv => whnf); rotate_right)))
    | ((with_reducible refine draw_id ?_); (first | ((refine draw_opK rfl ?hy (fun Q q0 q1 q2 => ?_)); (case hy => first | assumption | exact notT (by assumption) | exact rfl); conv => whnf) | ((refine draw_offK rfl ?hy ?_); (case hy => first | assumption | exact notF (by assumption) | exact rfl)) | ((refine draw_opK0 rfl ?hy (fun Q q0 q1 q2 => ?_)); (case hy => first | assumption | exact notT (by assumption) | exact rfl); conv => whnf) | ((refine draw_offK0 rfl ?hy ?_); (case hy => first | assumption | exact notF (by assumption) | exact rfl)) | (revert hF; (with_reducible refine draw_opF ?hx ?_ ?_); (case hx => exact rfl); (intro hc hF Q q0 q1 q2; conv => whnf); rotate_left; (intro hc hF); rotate_right) | (revert hF; (with_reducible refine draw_opN ?hx ?_ ?_); (case hx => exact rfl); (intro hc hF); rotate_left; (intro hc hF Q q0 q1 q2; conv => whnf); rotate_right) | (revert hF; (with_reducible refine draw_opF0 ?hx ?_ ?_); (case hx => exact rfl); (intro hc hF Q q0 q1 q2; conv => whnf); rotate_left; (intro hc hF); rotate_right) | (revert hF; (with_reducible refine draw_opN0 ?hx ?_ ?_); (case hx => exact rfl); (intro hc hF); rotate_left; (intro hc hF Q q0 q1 q2; conv => whnf); rotate_right)))
    | ((with_reducible refine cond_id ?_); (first | ((refine condKT rfl ?hy ?_); (case hy => first | assumption | exact notT (by assumption) | exact rfl)) | ((refine condKF rfl ?hy ?_); (case hy => first | assumption | exact notF (by assumption) | exact rfl)) | (revert hF; (with_reducible refine condF ?hx ?_ ?_); (case hx => exact rfl); all_goals (intro hc hF))))
    | ((with_reducible refine seq_nil ?_); (first | ((with_reducible refine hR _ ?_); clear R hR) | ((with_reducible refine hL _ ?_); clear L hL)))
    | ((with_reducible refine draw_nil ?_); (with_reducible refine hR _ _ ?hx ?_); (case hx => kernel_rfl); (first | clear R hR | clear hR))
    | ((with_reducible refine int_step ?_); conv => whnf)
    | ((with_reducible refine len_step ?_); conv => whnf)
    | ((with_reducible refine idx2 (by assumption) ?_); conv => whnf)
    | ((with_reducible refine idx3 (by assumption) ?_); conv => whnf)
    | with_reducible refine vc_block ?_
    | with_reducible refine vc_skip ?_
    | with_reducible refine vc_ret ?_
    | with_reducible refine vc_exit ?_
    | ((with_reducible refine vc_seqN [17, 13, 6, 17, 13, 6] ?hx ?_); (case hx => exact rfl))
    | (with_reducible refine vc_region (fun R hR => ?_))
    | ((with_reducible refine vc_draw ?hx (fun R hR => ?_)); (case hx => exact rfl))
    | fail
    | (revert hF; (refine Cf69_c17 rfl rfl ?_ ?_); (intro hF); rotate_left; (intro v10' v11 hF; unfold f69_c17 at hF); rotate_right)
    | exact Zf69_c17 hF ⟨_, rfl, rfl, rfl, rfl⟩ (by first | exact rfl | assumption | omega)
    | (revert hF; (refine Cf69_c13 rfl rfl ?_ ?_); (intro hF); rotate_left; (intro _ hF; unfold f69_c13 at hF); rotate_right)
    | exact Zf69_c13 hF ⟨_, rfl, rfl, rfl, rfl⟩ (by first | exact rfl | assumption | omega)
    | (revert hF; (refine Lf69_8 rfl ⟨_, rfl, rfl, rfl, rfl⟩ (by first | exact rfl | assumption | omega) ?_); intro n v10' v11 v39 hF; unfold f69_8b at hF)
    | exact Mf69_8 hF ⟨_, rfl, rfl, rfl, rfl⟩ (by first | exact rfl | assumption | omega)
    | (revert hF; (refine Cf69_c6 rfl rfl ?_ ?_); (intro hF); rotate_left; (intro v10 hF; unfold f69_c6 at hF); rotate_right)
    | exact Zf69_c6 hF ⟨_, rfl, rfl, rfl, rfl⟩ (by first | exact rfl | assumption | omega)
    | (revert hF; (refine Cf69_c17_1 rfl rfl ?_ ?_); (intro hF); rotate_left; (intro v10' v11 hF; unfold f69_c17_1 at hF); rotate_right)
    | exact Zf69_c17_1 hF ⟨_, rfl, rfl, rfl, rfl⟩ (by first | exact rfl | assumption | omega)
    | (revert hF; (refine Cf69_c13_1 rfl rfl ?_ ?_); (intro hF); rotate_left; (intro _ hF; unfold f69_c13_1 at hF); rotate_right)
    | exact Zf69_c13_1 hF ⟨_, rfl, rfl, rfl, rfl⟩ (by first | exact rfl | assumption | omega)
    | (revert hF; (refine Lf69_8_1 rfl ⟨_, rfl, rfl, rfl, rfl⟩ (by first | exact rfl | assumption | omega) ?_); intro n v10' v11 v39 hF; unfold f69_8_1b at hF)
    | exact Mf69_8_1 hF ⟨_, rfl, rfl, rfl, rfl⟩ (by first | exact rfl | assumption | omega)
    | (revert hF; (refine Cf69_c6_1 rfl rfl ?_ ?_); (intro hF); rotate_left; (intro v10 hF; unfold f69_c6_1 at hF); rotate_right)
    | exact Zf69_c6_1 hF ⟨_, rfl, rfl, rfl, rfl⟩ (by first | exact rfl | assumption | omega)
    | (revert hF; (with_reducible refine G52.step ?hx ?_); (case hx => exact rfl); intro v hF; conv => whnf)
    | (revert hF; (with_reducible refine G53.step ?hx ?_); (case hx => exact rfl); intro v hF; conv => whnf)
    | (revert hF; (with_reducible refine G55.step ?hx ?_); (case hx => exact rfl); intro v hF; conv => whnf)
    | with_reducible refine k_seq_ret ?_
    | with_reducible refine k_seq_exit ?_
    | with_reducible refine k_blk ?_
    | with_reducible refine k_blk_ret ?_
    | with_reducible refine k_blk_here ?_
    | ((with_reducible refine k_blk_out ?hx ?_); (case hx => exact rfl))
    | with_reducible refine k_loop_ret ?_
    | with_reducible refine k_loop_exit ?_
    | (revert hF; (with_reducible refine idx1 ?hn ?_); (case hn => first | exact rfl | exact (List.length_map _) | assumption | omega | simp); intro x hx hF; conv => whnf)
    | ((with_reducible have hG := sub_fact hF); clear hF; (first | (refine sub_step hG (fun q hF => ?_)) | (refine subrow_step hG ?hn (fun q hF => ?_); (case hn => first | exact rfl | assumption | omega))); clear hG; conv => whnf)
    | ((with_reducible have hG := app_fact hF); clear hF; (first | ((refine app_row hG ?hn ?hs (fun q hF => ?_)); (case hn => first | exact rfl | assumption | omega); (case hs => exact rfl)) | ((refine app_nil (d := Label.d) hG ?hs (fun q hF => ?_)); (case hs => exact rfl)) | ((refine app_gen (d := Label.d) hG ?ho ?hn ?hs (fun q hF => ?_)); (case ho => exact rfl); (case hn => exact rfl); (case hs => exact rfl))); clear hG; conv => whnf)
    | ((refine row_all ?hn ?_); (case hn => first | exact rfl | (simp; done) | (simp; omega)); conv => whnf)
    | ((with_reducible refine le_step ?hn ?_); (case hn => first | exact rfl | assumption | omega); conv => whnf)
    | ((with_reducible have hG := setx_fact hF); clear hF; (refine setx_step hG ?hs (fun q hl hF => ?_)); (case hs => exact rfl); clear hG; conv => whnf)
    | (revert hF; (with_reducible refine dem_step ?_ ?_); (intro hl hF; conv => whnf); rotate_left; (intro hF; conv => whnf); rotate_right)
    | ((refine ⟨?hx, ?_⟩); (case hx => exact ⟨rfl, Nat.le_of_ble_eq_true rfl, rfl⟩); conv => whnf)
    | ((with_reducible refine ex_step ?_); conv => whnf)
    | ((with_reducible refine both_T ?hx ?_); (case hx => first | exact rfl | assumption | exact notT (by assumption)); conv => whnf)
    | ((with_reducible refine both_F ?hx ?_); (case hx => first | exact rfl | assumption | exact notF (by assumption)); conv => whnf)
    | (revert hF; (with_reducible refine ite_step ?_ ?_) <;> (intro hc hF; conv => whnf))
    | ((with_reducible refine vc_condT ?hx ?_); (case hx => exact rfl))
    | ((with_reducible refine vc_condF ?hx ?_); (case hx => exact rfl))
    | (show retD _ _ _ _ _ _; conv => whnf)
    | ((refine inl_step ?ha ?hb ?hc rfl ?_); (case ha => exact rfl); (case hb => omega); (case hc => exact Nat.le_of_ble_eq_true rfl))
    | (show Kinl _ _ _ _ _ _ _; conv => whnf)
    | ((with_reducible refine kinl_step ?ha ?hb ?_); (case ha => exact rfl); (case hb => exact rfl); conv => whnf)
    | ((refine ⟨?hx, trivial⟩); (case hx => (cases hF; exact rfl)))
    | ((refine ⟨?hx, ?_⟩); (case hx => decide); conv => whnf)
    | ((with_reducible refine k_seq ?_))
    | (have hF : (none : Option _) = some _ := hF; cases hF))
end
end Go.Vc
namespace Go.Vc
open Go.Proofs
set_option linter.unusedVariables false
set_option linter.unnecessarySimpa false
set_option linter.unusedSimpArgs false
section
variable {c : Ctx} {p nid : Nat} {a b : Code} {st : St} {K : Ex → St → Prop}
/- f45: (tusche/cut.piece).cuts -/
def f45_c13 (out3 : List Cut) : Option ((List Cut)) :=
 some (out3)
def Sf45_c13 : Ann := ⟨[3], [90003], [(.slot 3, 90003, 45, 2)], []⟩
def Vf45_c13 (out3 : List Cut) : List SV := [.rs 90003 (List.length out3)]
def Bf45_c13 (out3 : List Cut) : List Blk := [.row 45 2 (List.map Cut.d out3)]
def Yf45_c13 (y : (List Cut)) : List SV := Vf45_c13 y
def Xf45_c13 (y : (List Cut)) : List Blk := Bf45_c13 y
def Jf45_c13 (r : (List Cut)) (y : (List Cut)) : Prop := f45_c13 y = some r
def V2f45_c13 (out3 : List Cut) (m0 : Nat) : List SV := [.rs 90003 m0]
def B2f45_c13 (out3 : List Cut) (m0 : Nat) : List Blk := [.row 45 2 (List.map Cut.d out3)]
theorem Cf45_c13 {r : (List Cut)} {g : _ → Option ((List Cut))} (hn : Nat.beq (nid * 1000 + firstRegion b) 13 = true) (hz : Sf45_c13.ok p = true) (h : g f45_c13 = some r → vc c p nid a st (KHead Sf45_c13 Yf45_c13 Xf45_c13 (Jf45_c13 r) K)) (h2 : ∀ (out3 : List Cut), f45_c13 out3 = some r → vc c p nid b (St.mk' Sf45_c13 (Vf45_c13 out3) (Bf45_c13 out3)) K) (hF : joinK f45_c13 g = some r) : vc c p nid (.seq a b) st K :=
  vc_cut Sf45_c13 Yf45_c13 Xf45_c13 (Jf45_c13 r) hz (h hF) fun y hy => h2 y hy
theorem Zf45_c13 {r : (List Cut)} {out3 : List Cut} {m0 : Nat} (hF : f45_c13 out3 = some r) (h0 : AtH Sf45_c13 st (V2f45_c13 out3 m0) (B2f45_c13 out3 m0)) (em0 : m0 = List.length out3) : KHead Sf45_c13 Yf45_c13 Xf45_c13 (Jf45_c13 r) K .normal st := by
  subst em0; exact khead (I := (Jf45_c13 r)) (x := (out3)) hF h0
def f45_c12 (a0 : Piece) (v12 : Int) (r3 : (List Cut) → Int → Option ((List Cut))) (out3' : List Cut) : Option ((List Cut)) :=
 r3 (out3') (W (v12 + (1 : Int)))
def Sf45_c12 : Ann := ⟨[1, 3, 10, 11, 12], [0, 200, 90003], [(.slot 3, 90003, 45, 2)], []⟩
def Vf45_c12 (a0 : Piece) (v12 : Int) (out3' : List Cut) : List SV := [.ptr 0 0, .rs 90003 (List.length (out3')), .rs 200 (List.length [true, false]), .dat (iN (List.length [true, false] : Int)), .dat (iN v12)]
def Bf45_c12 (a0 : Piece) (v12 : Int) (out3' : List Cut) : List Blk := [.box [.dat (iN a0.Label_.X), .dat (iN a0.Label_.Y), .dat (iN a0.Label_.W), .dat (iN a0.Label_.H), .dat (sl_Label a0.labels)], .row 4 1 (List.map bN [true, false]), .row 45 2 (List.map Cut.d (out3'))]
def Yf45_c12 (a0 : Piece) (v12 : Int) (y : (List Cut)) : List SV := Vf45_c12 a0 v12 y
def Xf45_c12 (a0 : Piece) (v12 : Int) (y : (List Cut)) : List Blk := Bf45_c12 a0 v12 y
def Jf45_c12 (a0 : Piece) (v12 : Int) (r3 : (List Cut) → Int → Option ((List Cut))) (r : (List Cut)) (y : (List Cut)) : Prop := f45_c12 a0 v12 r3 y = some r
def V2f45_c12 (a0 : Piece) (v12 : Int) (out3' : List Cut) (m0 : Nat) (m1 : Nat) : List SV := [.ptr 0 0, .rs 90003 m0, .rs 200 m1, .dat (iN (List.length [true, false] : Int)), .dat (iN v12)]
def B2f45_c12 (a0 : Piece) (v12 : Int) (out3' : List Cut) (m0 : Nat) (m1 : Nat) : List Blk := [.box [.dat (iN a0.Label_.X), .dat (iN a0.Label_.Y), .dat (iN a0.Label_.W), .dat (iN a0.Label_.H), .dat (sl_Label a0.labels)], .row 4 1 (List.map bN [true, false]), .row 45 2 (List.map Cut.d (out3'))]
theorem Cf45_c12 {r : (List Cut)} {a0 : Piece} {v12 : Int} {r3 : (List Cut) → Int → Option ((List Cut))} {g : _ → Option ((List Cut))} (hn : Nat.beq (nid * 1000 + firstRegion b) 12 = true) (hz : Sf45_c12.ok p = true) (h : g (f45_c12 a0 v12 r3) = some r → vc c p nid a st (KHead Sf45_c12 (Yf45_c12 a0 v12) (Xf45_c12 a0 v12) (Jf45_c12 a0 v12 r3 r) K)) (h2 : ∀ (out3' : List Cut), f45_c12 a0 v12 r3 out3' = some r → vc c p nid b (St.mk' Sf45_c12 (Vf45_c12 a0 v12 out3') (Bf45_c12 a0 v12 out3')) K) (hF : joinK (f45_c12 a0 v12 r3) g = some r) : vc c p nid (.seq a b) st K :=
  vc_cut Sf45_c12 (Yf45_c12 a0 v12) (Xf45_c12 a0 v12) (Jf45_c12 a0 v12 r3 r) hz (h hF) fun y hy => h2 y hy
theorem Zf45_c12 {r : (List Cut)} {a0 : Piece} {v12 : Int} {r3 : (List Cut) → Int → Option ((List Cut))} {out3' : List Cut} {m0 : Nat} {m1 : Nat} (hF : f45_c12 a0 v12 r3 out3' = some r) (h0 : AtH Sf45_c12 st (V2f45_c12 a0 v12 out3' m0 m1) (B2f45_c12 a0 v12 out3' m0 m1)) (em0 : m0 = List.length (out3')) (em1 : m1 = List.length [true, false]) : KHead Sf45_c12 (Yf45_c12 a0 v12) (Xf45_c12 a0 v12) (Jf45_c12 a0 v12 r3 r) K .normal st := by
  subst em0 em1; exact khead (I := (Jf45_c12 a0 v12 r3 r)) (x := (out3')) hF h0
def f45_6b (r6 : (List Cut) → Int → Option ((List Cut))) (a0 : Piece) (N : Nat) (v12 : Int) (k1 : (List Cut) → Option ((List Cut))) (x1 : Bool) (out3' : List Cut) (v16 : Int) : Option ((List Cut)) :=
 bif decide (v16 < (12 : Int)) then ((f69 N a0 (Cut.mk x1 v16)).bind fun x2 =>
 bif x2.2.2 then ((app 16 (out3') [(Cut.mk x1 v16)]).bind fun x3 =>
 r6 x3 (W (v16 + (1 : Int))))
 else (r6 (out3') (W (v16 + (1 : Int)))))
 else (k1 (out3'))
def f45_6 (a0 : Piece) (N : Nat) (v12 : Int) (k1 : (List Cut) → Option ((List Cut))) (x1 : Bool) : Nat → (List Cut) → Int → Option ((List Cut))
  | 0, _, _ => none
  | n + 1, out3', v16 => f45_6b (f45_6 a0 N v12 k1 x1 n) a0 N v12 k1 x1 out3' v16
def Sf45_6 : Ann := ⟨[1, 3, 5, 10, 11, 12, 16], [0, 200, 90003], [(.slot 3, 90003, 45, 2)], []⟩
def Vf45_6 (a0 : Piece) (v12 : Int) (x1 : Bool) (out3' : List Cut) (v16 : Int) : List SV := [.ptr 0 0, .rs 90003 (List.length (out3')), .kb x1, .rs 200 (List.length [true, false]), .dat (iN (List.length [true, false] : Int)), .dat (iN v12), .dat (iN v16)]
def Bf45_6 (a0 : Piece) (v12 : Int) (x1 : Bool) (out3' : List Cut) (v16 : Int) : List Blk := [.box [.dat (iN a0.Label_.X), .dat (iN a0.Label_.Y), .dat (iN a0.Label_.W), .dat (iN a0.Label_.H), .dat (sl_Label a0.labels)], .row 4 1 (List.map bN [true, false]), .row 45 2 (List.map Cut.d (out3'))]
def Yf45_6 (a0 : Piece) (v12 : Int) (x1 : Bool) (y : Nat × (List Cut) × Int) : List SV := Vf45_6 a0 v12 x1 y.2.1 y.2.2
def Xf45_6 (a0 : Piece) (v12 : Int) (x1 : Bool) (y : Nat × (List Cut) × Int) : List Blk := Bf45_6 a0 v12 x1 y.2.1 y.2.2
def Jf45_6 (a0 : Piece) (N : Nat) (v12 : Int) (k1 : (List Cut) → Option ((List Cut))) (x1 : Bool) (r : (List Cut)) (y : Nat × (List Cut) × Int) : Prop := f45_6 a0 N v12 k1 x1 y.1 y.2.1 y.2.2 = some r
def V2f45_6 (a0 : Piece) (v12 : Int) (x1 : Bool) (out3' : List Cut) (v16 : Int) (m0 : Nat) (m1 : Nat) : List SV := [.ptr 0 0, .rs 90003 m0, .kb x1, .rs 200 m1, .dat (iN (List.length [true, false] : Int)), .dat (iN v12), .dat (iN v16)]
def B2f45_6 (a0 : Piece) (v12 : Int) (x1 : Bool) (out3' : List Cut) (v16 : Int) (m0 : Nat) (m1 : Nat) : List Blk := [.box [.dat (iN a0.Label_.X), .dat (iN a0.Label_.Y), .dat (iN a0.Label_.W), .dat (iN a0.Label_.H), .dat (sl_Label a0.labels)], .row 4 1 (List.map bN [true, false]), .row 45 2 (List.map Cut.d (out3'))]
theorem Lf45_6 {r : (List Cut)} {a0 : Piece} {N : Nat} {v12 : Int} {k1 : (List Cut) → Option ((List Cut))} {x1 : Bool} {fu : Nat} {out3' : List Cut} {v16 : Int} {m0 : Nat} {m1 : Nat} (hz : Sf45_6.ok p = true) (h0 : AtH Sf45_6 st (V2f45_6 a0 v12 x1 out3' v16 m0 m1) (B2f45_6 a0 v12 x1 out3' v16 m0 m1)) (em0 : m0 = List.length (out3')) (em1 : m1 = List.length [true, false]) (h : ∀ (n : Nat) (out3' : List Cut) (v16 : Int), f45_6b (f45_6 a0 N v12 k1 x1 n) a0 N v12 k1 x1 out3' v16 = some r → vc c p nid a (St.mk' Sf45_6 (Vf45_6 a0 v12 x1 out3' v16) (Bf45_6 a0 v12 x1 out3' v16)) (Kloop Sf45_6 (Yf45_6 a0 v12 x1) (Xf45_6 a0 v12 x1) (Jf45_6 a0 N v12 k1 x1 r) Prod.fst (n + 1, out3', v16) K)) (hF : f45_6 a0 N v12 k1 x1 fu out3' v16 = some r) : vc c p nid (.loop a) st K := by
  subst em0 em1; refine vc_loop Sf45_6 (Yf45_6 a0 v12 x1) (Xf45_6 a0 v12 x1) (Jf45_6 a0 N v12 k1 x1 r) Prod.fst hz (kheadL (x := (fu, out3', v16)) hF h0) ?_
  rintro ⟨_ | n, out3', v16⟩ hI
  · cases hI
  · exact h n out3' v16 hI
theorem Mf45_6 {r : (List Cut)} {a0 : Piece} {N : Nat} {v12 : Int} {k1 : (List Cut) → Option ((List Cut))} {x1 : Bool} {n : Nat} {out3' : List Cut} {v16 : Int} {out3'_ : List Cut} {v16_ : Int} {m0 : Nat} {m1 : Nat} (hF : f45_6 a0 N v12 k1 x1 n out3' v16 = some r) (h0 : AtH Sf45_6 st (V2f45_6 a0 v12 x1 out3' v16 m0 m1) (B2f45_6 a0 v12 x1 out3' v16 m0 m1)) (em0 : m0 = List.length (out3')) (em1 : m1 = List.length [true, false]) : Kloop Sf45_6 (Yf45_6 a0 v12 x1) (Xf45_6 a0 v12 x1) (Jf45_6 a0 N v12 k1 x1 r) Prod.fst (n + 1, out3'_, v16_) K .normal st := by
  subst em0 em1; exact kback (y := (n, out3', v16)) hF (Nat.lt_succ_self n) h0
def f45_3b (r3 : (List Cut) → Int → Option ((List Cut))) (a0 : Piece) (N : Nat) (k0 : (List Cut) → Option ((List Cut))) (out3 : List Cut) (v12 : Int) : Option ((List Cut)) :=
 bif decide (v12 < (List.length [true, false] : Int)) then (joinK (f45_c12 a0 v12 r3) fun k1 =>
 (ix [true, false] v12).bind fun x1 =>
 f45_6 a0 N v12 k1 x1 N out3 (0 : Int))
 else (k0 out3)
def f45_3 (a0 : Piece) (N : Nat) (k0 : (List Cut) → Option ((List Cut))) : Nat → (List Cut) → Int → Option ((List Cut))
  | 0, _, _ => none
  | n + 1, out3, v12 => f45_3b (f45_3 a0 N k0 n) a0 N k0 out3 v12
def Sf45_3 : Ann := ⟨[1, 3, 10, 11, 12], [0, 200, 90003], [(.slot 3, 90003, 45, 2)], []⟩
def Vf45_3 (a0 : Piece) (out3 : List Cut) (v12 : Int) : List SV := [.ptr 0 0, .rs 90003 (List.length out3), .rs 200 (List.length [true, false]), .dat (iN (List.length [true, false] : Int)), .dat (iN v12)]
def Bf45_3 (a0 : Piece) (out3 : List Cut) (v12 : Int) : List Blk := [.box [.dat (iN a0.Label_.X), .dat (iN a0.Label_.Y), .dat (iN a0.Label_.W), .dat (iN a0.Label_.H), .dat (sl_Label a0.labels)], .row 4 1 (List.map bN [true, false]), .row 45 2 (List.map Cut.d out3)]
def Yf45_3 (a0 : Piece) (y : Nat × (List Cut) × Int) : List SV := Vf45_3 a0 y.2.1 y.2.2
def Xf45_3 (a0 : Piece) (y : Nat × (List Cut) × Int) : List Blk := Bf45_3 a0 y.2.1 y.2.2
def Jf45_3 (a0 : Piece) (N : Nat) (k0 : (List Cut) → Option ((List Cut))) (r : (List Cut)) (y : Nat × (List Cut) × Int) : Prop := f45_3 a0 N k0 y.1 y.2.1 y.2.2 = some r
def V2f45_3 (a0 : Piece) (out3 : List Cut) (v12 : Int) (m0 : Nat) (m1 : Nat) : List SV := [.ptr 0 0, .rs 90003 m0, .rs 200 m1, .dat (iN (List.length [true, false] : Int)), .dat (iN v12)]
def B2f45_3 (a0 : Piece) (out3 : List Cut) (v12 : Int) (m0 : Nat) (m1 : Nat) : List Blk := [.box [.dat (iN a0.Label_.X), .dat (iN a0.Label_.Y), .dat (iN a0.Label_.W), .dat (iN a0.Label_.H), .dat (sl_Label a0.labels)], .row 4 1 (List.map bN [true, false]), .row 45 2 (List.map Cut.d out3)]
theorem Lf45_3 {r : (List Cut)} {a0 : Piece} {N : Nat} {k0 : (List Cut) → Option ((List Cut))} {fu : Nat} {out3 : List Cut} {v12 : Int} {m0 : Nat} {m1 : Nat} (hz : Sf45_3.ok p = true) (h0 : AtH Sf45_3 st (V2f45_3 a0 out3 v12 m0 m1) (B2f45_3 a0 out3 v12 m0 m1)) (em0 : m0 = List.length out3) (em1 : m1 = List.length [true, false]) (h : ∀ (n : Nat) (out3 : List Cut) (v12 : Int), f45_3b (f45_3 a0 N k0 n) a0 N k0 out3 v12 = some r → vc c p nid a (St.mk' Sf45_3 (Vf45_3 a0 out3 v12) (Bf45_3 a0 out3 v12)) (Kloop Sf45_3 (Yf45_3 a0) (Xf45_3 a0) (Jf45_3 a0 N k0 r) Prod.fst (n + 1, out3, v12) K)) (hF : f45_3 a0 N k0 fu out3 v12 = some r) : vc c p nid (.loop a) st K := by
  subst em0 em1; refine vc_loop Sf45_3 (Yf45_3 a0) (Xf45_3 a0) (Jf45_3 a0 N k0 r) Prod.fst hz (kheadL (x := (fu, out3, v12)) hF h0) ?_
  rintro ⟨_ | n, out3, v12⟩ hI
  · cases hI
  · exact h n out3 v12 hI
theorem Mf45_3 {r : (List Cut)} {a0 : Piece} {N : Nat} {k0 : (List Cut) → Option ((List Cut))} {n : Nat} {out3 : List Cut} {v12 : Int} {out3_ : List Cut} {v12_ : Int} {m0 : Nat} {m1 : Nat} (hF : f45_3 a0 N k0 n out3 v12 = some r) (h0 : AtH Sf45_3 st (V2f45_3 a0 out3 v12 m0 m1) (B2f45_3 a0 out3 v12 m0 m1)) (em0 : m0 = List.length out3) (em1 : m1 = List.length [true, false]) : Kloop Sf45_3 (Yf45_3 a0) (Xf45_3 a0) (Jf45_3 a0 N k0 r) Prod.fst (n + 1, out3_, v12_) K .normal st := by
  subst em0 em1; exact kback (y := (n, out3, v12)) hF (Nat.lt_succ_self n) h0
def f45 (N : Nat) (a0 : Piece) : Option ((List Cut)) :=
 joinK f45_c13 fun k0 =>
 f45_3 a0 N k0 N [] (0 : Int)
def G45 (ds : List D) (d : D) : Prop := ∃ (N : Nat) (a0 : Piece) (r : (List Cut)), ds = [Piece.d a0] ∧ f45 N a0 = some r ∧ d = sl_Cut r
theorem G45.step {N : Nat} {a0 : Piece} {ρ : Type} {A : (List Cut) → Option ρ} {q : ρ} {ds : List D} {K : D → Prop} (hd : ds = [Piece.d a0]) (h : ∀ r, A r = some q → K (sl_Cut r)) (hF : (f45 N a0).bind A = some q) : ∃ d, G45 ds d ∧ K d := by
  obtain ⟨r, hr, hA⟩ := bind_some hF
  exact ⟨_, ⟨N, a0, r, hd, hr, rfl⟩, h r hA⟩
set_option maxRecDepth 20000 in
set_option maxHeartbeats 4000000 in
theorem P45 : PureOK Try.prog 45 G45 := by
  refine pure_of_vc (c := mkCtx tyTree [(69, true, purePg [[0, 0, 0, 0, 4], [0, 0]] G69)]) rfl tyOK (ctx_cons (callable Try.func69 rfl rfl) P69 (ctx_nil)) [[2]] 1 Try.func45 rfl rfl (by decide) (by kernel_rfl) ?_
  rintro ds d ⟨N, a0, r, rfl, hF, rfl⟩ hok
  clear hok
  refine ⟨rfl, ?_⟩
  show vc _ _ _ _ ⟨[(0, .dat (Piece.d a0))], []⟩ _
  unfold f45 at hF
  repeat' (first
    | ((with_reducible refine q0 _ _ ?_); clear Q q0 q1 q2)
    | ((with_reducible refine q1 _ _ _ _ ?_); clear Q q0 q1 q2)
    | ((with_reducible refine q2 _ _ _ ?_); clear Q q0 q1 q2)
    | ((with_reducible refine seq_op ?hx (fun Q q0 q1 q2 => ?_)); (case hx => exact rfl); conv => whnf)
    | ((with_reducible refine seq_op0 ?hx (fun Q q0 q1 q2 => ?_)); (case hx => exact rfl); conv => whnf)
    | ((with_reducible refine cond_id ?_); (first | ((refine condKT rfl ?hy ?_); (case hy => first | assumption | exact notT (by assumption) | exact rfl)) | ((refine condKF rfl ?hy ?_); (case hy => first | assumption | exact notF (by assumption) | exact rfl)) | (revert hF; (with_reducible refine condF ?hx ?_ ?_); (case hx => exact rfl); all_goals (intro hc hF))))
    | ((with_reducible refine seq_nil ?_); (first | ((with_reducible refine hR _ ?_); clear R hR) | ((with_reducible refine hL _ ?_); clear L hL)))
    | ((with_reducible refine int_step ?_); conv => whnf)
    | ((with_reducible refine len_step ?_); conv => whnf)
    | ((with_reducible refine idx2 (by assumption) ?_); conv => whnf)
    | ((with_reducible refine idx3 (by assumption) ?_); conv => whnf)
    | with_reducible refine vc_block ?_
    | with_reducible refine vc_skip ?_
    | with_reducible refine vc_ret ?_
    | with_reducible refine vc_exit ?_
    | ((with_reducible refine vc_seqN [13, 12] ?hx ?_); (case hx => exact rfl))
    | (with_reducible refine vc_region (fun R hR => ?_))
    | fail
    | (revert hF; (refine Cf45_c13 rfl rfl ?_ ?_); (intro hF); rotate_left; (intro out3 hF; unfold f45_c13 at hF); rotate_right)
    | exact Zf45_c13 hF ⟨_, rfl, rfl, rfl, rfl⟩ (by first | exact rfl | assumption | omega)
    | (revert hF; (refine Cf45_c12 rfl rfl ?_ ?_); (intro hF); rotate_left; (intro out3' hF; unfold f45_c12 at hF); rotate_right)
    | exact Zf45_c12 hF ⟨_, rfl, rfl, rfl, rfl⟩ (by first | exact rfl | assumption | omega) (by first | exact rfl | assumption | omega)
    | (revert hF; (refine Lf45_6 rfl ⟨_, rfl, rfl, rfl, rfl⟩ (by first | exact rfl | assumption | omega) (by first | exact rfl | assumption | omega) ?_); intro n out3' v16 hF; unfold f45_6b at hF)
    | exact Mf45_6 hF ⟨_, rfl, rfl, rfl, rfl⟩ (by first | exact rfl | assumption | omega) (by first | exact rfl | assumption | omega)
    | (revert hF; (refine Lf45_3 rfl ⟨_, rfl, rfl, rfl, rfl⟩ (by first | exact rfl | assumption | omega) (by first | exact rfl | assumption | omega) ?_); intro n out3 v12 hF; unfold f45_3b at hF)
    | exact Mf45_3 hF ⟨_, rfl, rfl, rfl, rfl⟩ (by first | exact rfl | assumption | omega) (by first | exact rfl | assumption | omega)
    | (revert hF; (with_reducible refine G69.step ?hx ?_); (case hx => exact rfl); intro v hF; conv => whnf)
    | with_reducible refine k_seq_ret ?_
    | with_reducible refine k_seq_exit ?_
    | with_reducible refine k_blk ?_
    | with_reducible refine k_blk_ret ?_
    | with_reducible refine k_blk_here ?_
    | ((with_reducible refine k_blk_out ?hx ?_); (case hx => exact rfl))
    | with_reducible refine k_loop_ret ?_
    | with_reducible refine k_loop_exit ?_
    | (revert hF; (with_reducible refine idx1 ?hn ?_); (case hn => first | exact rfl | exact (List.length_map _) | assumption | omega | simp); intro x hx hF; conv => whnf)
    | ((with_reducible have hG := app_fact hF); clear hF; (first | ((refine app_row hG ?hn ?hs (fun q hF => ?_)); (case hn => first | exact rfl | assumption | omega); (case hs => exact rfl)) | ((refine app_nil (d := Cut.d) hG ?hs (fun q hF => ?_)); (case hs => exact rfl)) | ((refine app_gen (d := Cut.d) hG ?ho ?hn ?hs (fun q hF => ?_)); (case ho => exact rfl); (case hn => exact rfl); (case hs => exact rfl))); clear hG; conv => whnf)
    | ((refine row_all ?hn ?_); (case hn => first | exact rfl | (simp; done) | (simp; omega)); conv => whnf)
    | ((with_reducible refine le_step ?hn ?_); (case hn => first | exact rfl | assumption | omega); conv => whnf)
    | ((refine ⟨?hx, ?_⟩); (case hx => exact ⟨rfl, Nat.le_of_ble_eq_true rfl, rfl⟩); conv => whnf)
    | ((with_reducible refine ex_step ?_); conv => whnf)
    | ((with_reducible refine both_T ?hx ?_); (case hx => first | exact rfl | assumption | exact notT (by assumption)); conv => whnf)
    | ((with_reducible refine both_F ?hx ?_); (case hx => first | exact rfl | assumption | exact notF (by assumption)); conv => whnf)
    | (revert hF; (with_reducible refine ite_step ?_ ?_) <;> (intro hc hF; conv => whnf))
    | ((with_reducible refine vc_condT ?hx ?_); (case hx => exact rfl))
    | ((with_reducible refine vc_condF ?hx ?_); (case hx => exact rfl))
    | (show retD _ _ _ _ _ _; conv => whnf)
    | ((refine ⟨?hx, trivial⟩); (case hx => (cases hF; exact rfl)))
    | ((refine ⟨?hx, ?_⟩); (case hx => decide); conv => whnf)
    | ((with_reducible refine k_seq ?_))
    | (have hF : (none : Option _) = some _ := hF; cases hF))
end
end Go.Vc
namespace Go.Vc
open Go.Proofs
set_option linter.unusedVariables false
set_option linter.unnecessarySimpa false
set_option linter.unusedSimpArgs false
section
variable {c : Ctx} {p nid : Nat} {a b : Code} {st : St} {K : Ex → St → Prop}
/- f15: tusche/cut.Cuts -/
def f15 (N : Nat) (a0 : Layout) : Option ((List Cut) × Int) :=
 (f20 N a0).bind fun x1 =>
 bif decide (¬ x1 = (0 : Int)) then (some ([], x1))
 else ((f44 N a0).bind fun x2 =>
 (f45 N x2).bind fun x3 =>
 some (x3, (0 : Int)))
def G15 (ds : List D) (d : D) : Prop := ∃ (N : Nat) (a0 : Layout) (r : (List Cut) × Int), ds = [Layout.d a0] ∧ f15 N a0 = some r ∧ d = .tup [sl_Cut r.1, iN r.2]
theorem G15.step {N : Nat} {a0 : Layout} {ρ : Type} {A : ((List Cut) × Int) → Option ρ} {q : ρ} {ds : List D} {K : D → Prop} (hd : ds = [Layout.d a0]) (h : ∀ r, A r = some q → K (.tup [sl_Cut r.1, iN r.2])) (hF : (f15 N a0).bind A = some q) : ∃ d, G15 ds d ∧ K d := by
  obtain ⟨r, hr, hA⟩ := bind_some hF
  exact ⟨_, ⟨N, a0, r, hd, hr, rfl⟩, h r hA⟩
set_option maxRecDepth 20000 in
set_option maxHeartbeats 4000000 in
theorem P15 : PureOK Try.prog 15 G15 := by
  refine pure_of_vc (c := mkCtx tyTree [(45, true, purePg [[0, 0, 0, 0, 4]] G45), (44, true, purePg [[0, 0, 4]] G44), (20, true, purePg [[0, 0, 4]] G20)]) rfl tyOK (ctx_cons (callable Try.func45 rfl rfl) P45 (ctx_cons (callable Try.func44 rfl rfl) P44 (ctx_cons (callable Try.func20 rfl rfl) P20 (ctx_nil)))) [[2], [0]] 1 Try.func15 rfl rfl (by decide) (by kernel_rfl) ?_
  rintro ds d ⟨N, a0, r, rfl, hF, rfl⟩ hok
  clear hok
  refine ⟨rfl, ?_⟩
  show vc _ _ _ _ ⟨[(0, .dat (Layout.d a0))], []⟩ _
  unfold f15 at hF
  repeat' (first
    | ((with_reducible refine q0 _ _ ?_); clear Q q0 q1 q2)
    | ((with_reducible refine q1 _ _ _ _ ?_); clear Q q0 q1 q2)
    | ((with_reducible refine q2 _ _ _ ?_); clear Q q0 q1 q2)
    | ((with_reducible refine seq_op ?hx (fun Q q0 q1 q2 => ?_)); (case hx => exact rfl); conv => whnf)
    | ((with_reducible refine cond_id ?_); (first | ((refine condKT rfl ?hy ?_); (case hy => first | assumption | exact notT (by assumption) | exact rfl)) | ((refine condKF rfl ?hy ?_); (case hy => first | assumption | exact notF (by assumption) | exact rfl)) | (revert hF; (with_reducible refine condF ?hx ?_ ?_); (case hx => exact rfl); all_goals (intro hc hF))))
    | ((with_reducible refine seq_nil ?_); (first | ((with_reducible refine hR _ ?_); clear R hR) | ((with_reducible refine hL _ ?_); clear L hL)))
    | ((with_reducible refine int_step ?_); conv => whnf)
    | with_reducible refine vc_block ?_
    | with_reducible refine vc_skip ?_
    | with_reducible refine vc_ret ?_
    | with_reducible refine vc_exit ?_
    | ((with_reducible refine vc_seqN [] ?hx ?_); (case hx => exact rfl))
    | (with_reducible refine vc_region (fun R hR => ?_))
    | fail
    | (revert hF; (with_reducible refine G20.step ?hx ?_); (case hx => exact rfl); intro v hF; conv => whnf)
    | (revert hF; (with_reducible refine G44.step ?hx ?_); (case hx => exact rfl); intro v hF; conv => whnf)
    | (revert hF; (with_reducible refine G45.step ?hx ?_); (case hx => exact rfl); intro v hF; conv => whnf)
    | with_reducible refine k_seq_ret ?_
    | with_reducible refine k_seq_exit ?_
    | with_reducible refine k_blk ?_
    | with_reducible refine k_blk_ret ?_
    | with_reducible refine k_blk_here ?_
    | ((with_reducible refine k_blk_out ?hx ?_); (case hx => exact rfl))
    | ((refine row_all ?hn ?_); (case hn => first | exact rfl | (simp; done) | (simp; omega)); conv => whnf)
    | ((with_reducible refine le_step ?hn ?_); (case hn => first | exact rfl | assumption | omega); conv => whnf)
    | ((refine ⟨?hx, ?_⟩); (case hx => exact ⟨rfl, Nat.le_of_ble_eq_true rfl, rfl⟩); conv => whnf)
    | ((with_reducible refine ex_step ?_); conv => whnf)
    | ((with_reducible refine both_T ?hx ?_); (case hx => first | exact rfl | assumption | exact notT (by assumption)); conv => whnf)
    | ((with_reducible refine both_F ?hx ?_); (case hx => first | exact rfl | assumption | exact notF (by assumption)); conv => whnf)
    | (revert hF; (with_reducible refine ite_step ?_ ?_) <;> (intro hc hF; conv => whnf))
    | ((with_reducible refine vc_condT ?hx ?_); (case hx => exact rfl))
    | ((with_reducible refine vc_condF ?hx ?_); (case hx => exact rfl))
    | (show retD _ _ _ _ _ _; conv => whnf)
    | ((refine ⟨?hx, trivial⟩); (case hx => (cases hF; exact rfl)))
    | ((refine ⟨?hx, ?_⟩); (case hx => decide); conv => whnf)
    | ((with_reducible refine k_seq ?_))
    | (have hF : (none : Option _) = some _ := hF; cases hF))
end
end Go.Vc
namespace Go.Vc
open Go.Proofs
set_option linter.unusedVariables false
set_option linter.unnecessarySimpa false
set_option linter.unusedSimpArgs false
section
variable {c : Ctx} {p nid : Nat} {a b : Code} {st : St} {K : Ex → St → Prop}
/- f71: tusche/cut.listed$1 -/
def f71 (N : Nat) (a0 : Kind) : Option (Bool) :=
 (f52 N (1 : Int) a0.W (12 : Int)).bind fun x1 =>
 bif !x1 then (some (true))
 else ((f52 N (1 : Int) a0.H (12 : Int)).bind fun x2 =>
 bif !x2 then (some (true))
 else ((f52 N (0 : Int) a0.Value (1000 : Int)).bind fun x3 =>
 some (!x3)))
def G71 (ds : List D) (d : D) : Prop := ∃ (N : Nat) (a0 : Kind) (r : Bool), ds = [Kind.d a0] ∧ f71 N a0 = some r ∧ d = bN r
theorem G71.step {N : Nat} {a0 : Kind} {ρ : Type} {A : Bool → Option ρ} {q : ρ} {ds : List D} {K : D → Prop} (hd : ds = [Kind.d a0]) (h : ∀ r, A r = some q → K (bN r)) (hF : (f71 N a0).bind A = some q) : ∃ d, G71 ds d ∧ K d := by
  obtain ⟨r, hr, hA⟩ := bind_some hF
  exact ⟨_, ⟨N, a0, r, hd, hr, rfl⟩, h r hA⟩
set_option maxRecDepth 20000 in
set_option maxHeartbeats 4000000 in
theorem P71 : PureOK Try.prog 71 G71 := by
  refine pure_of_vc (c := mkCtx tyTree [(52, true, purePg [[0], [0], [0]] G52)]) rfl tyOK (ctx_cons (callable Try.func52 rfl rfl) P52 (ctx_nil)) [[0]] 1 Try.func71 rfl rfl (by decide) (by kernel_rfl) ?_
  rintro ds d ⟨N, a0, r, rfl, hF, rfl⟩ hok
  clear hok
  refine ⟨rfl, ?_⟩
  show vc _ _ _ _ ⟨[(0, .dat (Kind.d a0))], []⟩ _
  unfold f71 at hF
  repeat' (first
    | ((with_reducible refine q0 _ _ ?_); clear Q q0 q1 q2)
    | ((with_reducible refine q1 _ _ _ _ ?_); clear Q q0 q1 q2)
    | ((with_reducible refine q2 _ _ _ ?_); clear Q q0 q1 q2)
    | ((with_reducible refine seq_op ?hx (fun Q q0 q1 q2 => ?_)); (case hx => exact rfl); conv => whnf)
    | ((with_reducible refine seq_off ?hx ?_); (case hx => exact rfl))
    | ((with_reducible refine seq_off0 ?hx ?_); (case hx => exact rfl))
    | ((with_reducible refine seq_id ?_); (first | ((refine seq_opK rfl ?hy (fun Q q0 q1 q2 => ?_)); (case hy => first | assumption | exact notT (by assumption) | exact rfl); conv => whnf) | ((refine seq_offK rfl ?hy ?_); (case hy => first | assumption | exact notF (by assumption) | exact rfl)) | ((refine seq_opK0 rfl ?hy (fun Q q0 q1 q2 => ?_)); (case hy => first | assumption | exact notT (by assumption) | exact rfl); conv => whnf) | ((refine seq_offK0 rfl ?hy ?_); (case hy => first | assumption | exact notF (by assumption) | exact rfl)) | (revert hF; (with_reducible refine seq_opF ?hx ?_ ?_); (case hx => exact rfl); (intro hc hF Q q0 q1 q2; conv => whnf); rotate_left; (intro hc hF); rotate_right) | (revert hF; (with_reducible refine seq_opN ?hx ?_ ?_); (case hx => exact rfl); (intro hc hF); rotate_left; (intro hc hF Q q0 q1 q2; conv => whnf); rotate_right) | (revert hF; (with_reducible refine seq_opF0 ?hx ?_ ?_); (case hx => exact rfl); (intro hc hF Q q0 q1 q2; conv => whnf); rotate_left; (intro hc hF); rotate_right) | (revert hF; (with_reducible refine seq_opN0 ?hx ?_ ?_); (case hx => exact rfl); (intro hc hF); rotate_left; (intro hc hF Q q0 q1 q2; conv => whnf); rotate_right)))
    | ((with_reducible refine seq_nil ?_); (first | ((with_reducible refine hR _ ?_); clear R hR) | ((with_reducible refine hL _ ?_); clear L hL)))
    | ((with_reducible refine int_step ?_); conv => whnf)
    | with_reducible refine vc_skip ?_
    | with_reducible refine vc_ret ?_
    | ((with_reducible refine vc_seqN [] ?hx ?_); (case hx => exact rfl))
    | (with_reducible refine vc_region (fun R hR => ?_))
    | fail
    | (revert hF; (with_reducible refine G52.step ?hx ?_); (case hx => exact rfl); intro v hF; conv => whnf)
    | with_reducible refine k_seq_ret ?_
    | ((refine row_all ?hn ?_); (case hn => first | exact rfl | (simp; done) | (simp; omega)); conv => whnf)
    | ((with_reducible refine le_step ?hn ?_); (case hn => first | exact rfl | assumption | omega); conv => whnf)
    | ((refine ⟨?hx, ?_⟩); (case hx => exact ⟨rfl, Nat.le_of_ble_eq_true rfl, rfl⟩); conv => whnf)
    | ((with_reducible refine ex_step ?_); conv => whnf)
    | ((with_reducible refine both_T ?hx ?_); (case hx => first | exact rfl | assumption | exact notT (by assumption)); conv => whnf)
    | ((with_reducible refine both_F ?hx ?_); (case hx => first | exact rfl | assumption | exact notF (by assumption)); conv => whnf)
    | (revert hF; (with_reducible refine ite_step ?_ ?_) <;> (intro hc hF; conv => whnf))
    | (show retD _ _ _ _ _ _; conv => whnf)
    | ((refine ⟨?hx, trivial⟩); (case hx => (cases hF; exact rfl)))
    | ((refine ⟨?hx, ?_⟩); (case hx => decide); conv => whnf)
    | ((with_reducible refine k_seq ?_))
    | (have hF : (none : Option _) = some _ := hF; cases hF))
end
end Go.Vc
namespace Go.Vc
open Go.Proofs
set_option linter.unusedVariables false
set_option linter.unnecessarySimpa false
set_option linter.unusedSimpArgs false
section
variable {c : Ctx} {p nid : Nat} {a b : Code} {st : St} {K : Ex → St → Prop}
/- f48: tusche/cut.listed -/
def f48_i501_i502000102_c7 : Option (Int) :=
 some ((0 : Int))
def Sf48_i501_i502000102_c7 : Ann := ⟨[], [], [], []⟩
def Vf48_i501_i502000102_c7 : List SV := []
def Bf48_i501_i502000102_c7 : List Blk := []
def Yf48_i501_i502000102_c7 (y : Unit) : List SV := Vf48_i501_i502000102_c7
def Xf48_i501_i502000102_c7 (y : Unit) : List Blk := Bf48_i501_i502000102_c7
def Jf48_i501_i502000102_c7 (r : Int) (y : Unit) : Prop := f48_i501_i502000102_c7 = some r
theorem Cf48_i501_i502000102_c7 {r : Int} {g : _ → Option (Int)} (hn : Nat.beq (nid * 1000 + firstRegion b) 502000103000000007 = true) (hz : Sf48_i501_i502000102_c7.ok p = true) (h : g f48_i501_i502000102_c7 = some r → vc c p nid a st (KHead Sf48_i501_i502000102_c7 Yf48_i501_i502000102_c7 Xf48_i501_i502000102_c7 (Jf48_i501_i502000102_c7 r) K)) (h2 : ∀ (_ : Unit), f48_i501_i502000102_c7 = some r → vc c p nid b (St.mk' Sf48_i501_i502000102_c7 Vf48_i501_i502000102_c7 Bf48_i501_i502000102_c7) K) (hF : joinK f48_i501_i502000102_c7 g = some r) : vc c p nid (.seq a b) st K :=
  vc_cut Sf48_i501_i502000102_c7 Yf48_i501_i502000102_c7 Xf48_i501_i502000102_c7 (Jf48_i501_i502000102_c7 r) hz (h hF) fun y hy => h2 () hy
theorem Zf48_i501_i502000102_c7 {r : Int} (hF : f48_i501_i502000102_c7 = some r) (h0 : AtH Sf48_i501_i502000102_c7 st Vf48_i501_i502000102_c7 Bf48_i501_i502000102_c7) : KHead Sf48_i501_i502000102_c7 Yf48_i501_i502000102_c7 Xf48_i501_i502000102_c7 (Jf48_i501_i502000102_c7 r) K .normal st := by
  exact khead (I := (Jf48_i501_i502000102_c7 r)) (x := ()) hF h0
def f48_i501_i502000102_2b (r2 : Int → Option (Int)) (a0 : List Kind) (N : Nat) (k0 : Option (Int)) (v8 : Int) : Option (Int) :=
 bif decide (v8 < (List.length a0 : Int)) then ((ix a0 v8).bind fun x1 =>
 (f71 N x1).bind fun x2 =>
 bif x2 then (bif decide ((0 : Int) ≤ v8) then (some ((3 : Int)))
 else (some ((0 : Int))))
 else (r2 (W (v8 + (1 : Int)))))
 else k0
def f48_i501_i502000102_2 (a0 : List Kind) (N : Nat) (k0 : Option (Int)) : Nat → Int → Option (Int)
  | 0, _ => none
  | n + 1, v8 => f48_i501_i502000102_2b (f48_i501_i502000102_2 a0 N k0 n) a0 N k0 v8
def Sf48_i501_i502000102_2 : Ann := ⟨[0, 1, 7, 8], [], [], []⟩
def Vf48_i501_i502000102_2 (a0 : List Kind) (v8 : Int) : List SV := [.dat (sl_Kind a0), .dat (.v (.func (.func 71) #[] #[])), .dat (iN (List.length a0 : Int)), .dat (iN v8)]
def Bf48_i501_i502000102_2 (a0 : List Kind) (v8 : Int) : List Blk := []
def Yf48_i501_i502000102_2 (a0 : List Kind) (y : Nat × Int) : List SV := Vf48_i501_i502000102_2 a0 y.2
def Xf48_i501_i502000102_2 (a0 : List Kind) (y : Nat × Int) : List Blk := Bf48_i501_i502000102_2 a0 y.2
def Jf48_i501_i502000102_2 (a0 : List Kind) (N : Nat) (k0 : Option (Int)) (r : Int) (y : Nat × Int) : Prop := f48_i501_i502000102_2 a0 N k0 y.1 y.2 = some r
theorem Lf48_i501_i502000102_2 {r : Int} {a0 : List Kind} {N : Nat} {k0 : Option (Int)} {fu : Nat} {v8 : Int} (hz : Sf48_i501_i502000102_2.ok p = true) (h0 : AtH Sf48_i501_i502000102_2 st (Vf48_i501_i502000102_2 a0 v8) (Bf48_i501_i502000102_2 a0 v8)) (h : ∀ (n : Nat) (v8 : Int), f48_i501_i502000102_2b (f48_i501_i502000102_2 a0 N k0 n) a0 N k0 v8 = some r → vc c p nid a (St.mk' Sf48_i501_i502000102_2 (Vf48_i501_i502000102_2 a0 v8) (Bf48_i501_i502000102_2 a0 v8)) (Kloop Sf48_i501_i502000102_2 (Yf48_i501_i502000102_2 a0) (Xf48_i501_i502000102_2 a0) (Jf48_i501_i502000102_2 a0 N k0 r) Prod.fst (n + 1, v8) K)) (hF : f48_i501_i502000102_2 a0 N k0 fu v8 = some r) : vc c p nid (.loop a) st K := by
  refine vc_loop Sf48_i501_i502000102_2 (Yf48_i501_i502000102_2 a0) (Xf48_i501_i502000102_2 a0) (Jf48_i501_i502000102_2 a0 N k0 r) Prod.fst hz (kheadL (x := (fu, v8)) hF h0) ?_
  rintro ⟨_ | n, v8⟩ hI
  · cases hI
  · exact h n v8 hI
theorem Mf48_i501_i502000102_2 {r : Int} {a0 : List Kind} {N : Nat} {k0 : Option (Int)} {n : Nat} {v8 : Int} {v8_ : Int} (hF : f48_i501_i502000102_2 a0 N k0 n v8 = some r) (h0 : AtH Sf48_i501_i502000102_2 st (Vf48_i501_i502000102_2 a0 v8) (Bf48_i501_i502000102_2 a0 v8)) : Kloop Sf48_i501_i502000102_2 (Yf48_i501_i502000102_2 a0) (Xf48_i501_i502000102_2 a0) (Jf48_i501_i502000102_2 a0 N k0 r) Prod.fst (n + 1, v8_) K .normal st := by
  exact kback (y := (n, v8)) hF (Nat.lt_succ_self n) h0
def f48 (N : Nat) (a0 : List Kind) : Option (Int) :=
 bif decide ((List.length a0 : Int) = (0 : Int)) then (some ((1 : Int)))
 else (bif decide ((6 : Int) < (List.length a0 : Int)) then (some ((2 : Int)))
 else (joinK f48_i501_i502000102_c7 fun k0 =>
 f48_i501_i502000102_2 a0 N k0 N (0 : Int)))
def G48 (ds : List D) (d : D) : Prop := ∃ (N : Nat) (a0 : List Kind) (r : Int), ds = [sl_Kind a0] ∧ f48 N a0 = some r ∧ d = iN r
theorem G48.step {N : Nat} {a0 : List Kind} {ρ : Type} {A : Int → Option ρ} {q : ρ} {ds : List D} {K : D → Prop} (hd : ds = [sl_Kind a0]) (h : ∀ r, A r = some q → K (iN r)) (hF : (f48 N a0).bind A = some q) : ∃ d, G48 ds d ∧ K d := by
  obtain ⟨r, hr, hA⟩ := bind_some hF
  exact ⟨_, ⟨N, a0, r, hd, hr, rfl⟩, h r hA⟩
set_option maxRecDepth 20000 in
set_option maxHeartbeats 4000000 in
theorem P48 : PureOK Try.prog 48 G48 := by
  refine pure_of_vc (c := mkCtx tyTree [(70, false, inlPg (mkCtx tyTree [(78, false, inlPg (mkCtx tyTree [(71, true, purePg [[0, 0, 0]] G71)]) Try.f78)]) Try.f70)]) rfl tyOK (ctx_eff (callable Try.func70 rfl rfl) (CallOK.inl rfl tyOK (ctx_eff (callable Try.func78 rfl rfl) (CallOK.inl rfl tyOK (ctx_cons (callable Try.func71 rfl rfl) P71 (ctx_nil)) Try.func78 (by kernel_rfl)) (ctx_nil)) Try.func70 (by kernel_rfl)) (ctx_nil)) [[0]] 1 Try.func48 rfl rfl (by decide) (by kernel_rfl) ?_
  rintro ds d ⟨N, a0, r, rfl, hF, rfl⟩ hok
  clear hok
  refine ⟨rfl, ?_⟩
  show vc _ _ _ _ ⟨[(0, .dat (sl_Kind a0))], []⟩ _
  unfold f48 at hF
  repeat' (first
    | ((with_reducible refine q0 _ _ ?_); clear Q q0 q1 q2)
    | ((with_reducible refine q1 _ _ _ _ ?_); clear Q q0 q1 q2)
    | ((with_reducible refine q2 _ _ _ ?_); clear Q q0 q1 q2)
    | ((with_reducible refine seq_op ?hx (fun Q q0 q1 q2 => ?_)); (case hx => exact rfl); conv => whnf)
    | ((with_reducible refine cond_id ?_); (first | ((refine condKT rfl ?hy ?_); (case hy => first | assumption | exact notT (by assumption) | exact rfl)) | ((refine condKF rfl ?hy ?_); (case hy => first | assumption | exact notF (by assumption) | exact rfl)) | (revert hF; (with_reducible refine condF ?hx ?_ ?_); (case hx => exact rfl); all_goals (intro hc hF))))
    | ((with_reducible refine seq_nil ?_); (first | ((with_reducible refine hR _ ?_); clear R hR) | ((with_reducible refine hL _ ?_); clear L hL)))
    | ((with_reducible refine int_step ?_); conv => whnf)
    | ((with_reducible refine len_step ?_); conv => whnf)
    | ((with_reducible refine idx2 (by assumption) ?_); conv => whnf)
    | ((with_reducible refine idx3 (by assumption) ?_); conv => whnf)
    | with_reducible refine vc_block ?_
    | with_reducible refine vc_skip ?_
    | with_reducible refine vc_ret ?_
    | with_reducible refine vc_exit ?_
    | ((with_reducible refine vc_seqN [502000103000000007] ?hx ?_); (case hx => exact rfl))
    | (with_reducible refine vc_region (fun R hR => ?_))
    | fail
    | (revert hF; (refine Cf48_i501_i502000102_c7 rfl rfl ?_ ?_); (intro hF); rotate_left; (intro _ hF; unfold f48_i501_i502000102_c7 at hF); rotate_right)
    | exact Zf48_i501_i502000102_c7 hF ⟨_, rfl, rfl, rfl, rfl⟩
    | (revert hF; (refine Lf48_i501_i502000102_2 rfl ⟨_, rfl, rfl, rfl, rfl⟩ ?_); intro n v8 hF; unfold f48_i501_i502000102_2b at hF)
    | exact Mf48_i501_i502000102_2 hF ⟨_, rfl, rfl, rfl, rfl⟩
    | (revert hF; (with_reducible refine G71.step ?hx ?_); (case hx => exact rfl); intro v hF; conv => whnf)
    | with_reducible refine k_seq_ret ?_
    | with_reducible refine k_seq_exit ?_
    | with_reducible refine k_blk ?_
    | with_reducible refine k_blk_ret ?_
    | with_reducible refine k_blk_here ?_
    | ((with_reducible refine k_blk_out ?hx ?_); (case hx => exact rfl))
    | with_reducible refine k_loop_ret ?_
    | with_reducible refine k_loop_exit ?_
    | (revert hF; (with_reducible refine idx1 ?hn ?_); (case hn => first | exact rfl | exact (List.length_map _) | assumption | omega | simp); intro x hx hF; conv => whnf)
    | ((refine row_all ?hn ?_); (case hn => first | exact rfl | (simp; done) | (simp; omega)); conv => whnf)
    | ((with_reducible refine le_step ?hn ?_); (case hn => first | exact rfl | assumption | omega); conv => whnf)
    | ((refine ⟨?hx, ?_⟩); (case hx => exact ⟨rfl, Nat.le_of_ble_eq_true rfl, rfl⟩); conv => whnf)
    | ((with_reducible refine ex_step ?_); conv => whnf)
    | ((with_reducible refine both_T ?hx ?_); (case hx => first | exact rfl | assumption | exact notT (by assumption)); conv => whnf)
    | ((with_reducible refine both_F ?hx ?_); (case hx => first | exact rfl | assumption | exact notF (by assumption)); conv => whnf)
    | (revert hF; (with_reducible refine ite_step ?_ ?_) <;> (intro hc hF; conv => whnf))
    | ((with_reducible refine vc_condT ?hx ?_); (case hx => exact rfl))
    | ((with_reducible refine vc_condF ?hx ?_); (case hx => exact rfl))
    | (show retD _ _ _ _ _ _; conv => whnf)
    | ((refine inl_step ?ha ?hb ?hc rfl ?_); (case ha => exact rfl); (case hb => omega); (case hc => exact Nat.le_of_ble_eq_true rfl))
    | (show Kinl _ _ _ _ _ _ _; conv => whnf)
    | ((with_reducible refine kinl_step ?ha ?hb ?_); (case ha => exact rfl); (case hb => exact rfl); conv => whnf)
    | ((refine ⟨?hx, trivial⟩); (case hx => (cases hF; exact rfl)))
    | ((refine ⟨?hx, ?_⟩); (case hx => decide); conv => whnf)
    | ((with_reducible refine k_seq ?_))
    | (have hF : (none : Option _) = some _ := hF; cases hF))
end
end Go.Vc
namespace Go.Vc
open Go.Proofs
set_option linter.unusedVariables false
set_option linter.unnecessarySimpa false
set_option linter.unusedSimpArgs false
section
variable {c : Ctx} {p nid : Nat} {a b : Code} {st : St} {K : Ex → St → Prop}
/- f49: tusche/cut.value -/
def f49_c8 (out8 : Int) (is9 : Bool) : Option (Int × Bool) :=
 some (out8, is9)
def Sf49_c8 : Ann := ⟨[8, 9], [], [], []⟩
def Vf49_c8 (out8 : Int) (is9 : Bool) : List SV := [.dat (iN out8), .kb is9]
def Bf49_c8 (out8 : Int) (is9 : Bool) : List Blk := []
def Yf49_c8 (y : Int × Bool) : List SV := Vf49_c8 y.1 y.2
def Xf49_c8 (y : Int × Bool) : List Blk := Bf49_c8 y.1 y.2
def Jf49_c8 (r : Int × Bool) (y : Int × Bool) : Prop := f49_c8 y.1 y.2 = some r
theorem Cf49_c8 {r : Int × Bool} {g : _ → Option (Int × Bool)} (hn : Nat.beq (nid * 1000 + firstRegion b) 8 = true) (hz : Sf49_c8.ok p = true) (h : g f49_c8 = some r → vc c p nid a st (KHead Sf49_c8 Yf49_c8 Xf49_c8 (Jf49_c8 r) K)) (h2 : ∀ (out8 : Int) (is9 : Bool), f49_c8 out8 is9 = some r → vc c p nid b (St.mk' Sf49_c8 (Vf49_c8 out8 is9) (Bf49_c8 out8 is9)) K) (hF : joinK f49_c8 g = some r) : vc c p nid (.seq a b) st K :=
  vc_cut Sf49_c8 Yf49_c8 Xf49_c8 (Jf49_c8 r) hz (h hF) fun y hy => h2 y.1 y.2 hy
theorem Zf49_c8 {r : Int × Bool} {out8 : Int} {is9 : Bool} (hF : f49_c8 out8 is9 = some r) (h0 : AtH Sf49_c8 st (Vf49_c8 out8 is9) (Bf49_c8 out8 is9)) : KHead Sf49_c8 Yf49_c8 Xf49_c8 (Jf49_c8 r) K .normal st := by
  exact khead (I := (Jf49_c8 r)) (x := (out8, is9)) hF h0
def f49_3b (r3 : Int → Bool → Int → Option (Int × Bool)) (a0 : Int) (a1 : Int) (a2 : List Kind) (k0 : Int → Bool → Option (Int × Bool)) (out8 : Int) (is9 : Bool) (v14 : Int) : Option (Int × Bool) :=
 bif decide (v14 < (List.length a2 : Int)) then ((ix a2 v14).bind fun x1 =>
 bif decide (x1.W = a0) then (bif decide (x1.H = a1) then (r3 (max out8 x1.Value) true (W (v14 + (1 : Int))))
 else (r3 out8 is9 (W (v14 + (1 : Int)))))
 else (r3 out8 is9 (W (v14 + (1 : Int)))))
 else (k0 out8 is9)
def f49_3 (a0 : Int) (a1 : Int) (a2 : List Kind) (k0 : Int → Bool → Option (Int × Bool)) : Nat → Int → Bool → Int → Option (Int × Bool)
  | 0, _, _, _ => none
  | n + 1, out8, is9, v14 => f49_3b (f49_3 a0 a1 a2 k0 n) a0 a1 a2 k0 out8 is9 v14
def Sf49_3 : Ann := ⟨[0, 1, 8, 9, 12, 13, 14], [], [], []⟩
def Vf49_3 (a0 : Int) (a1 : Int) (a2 : List Kind) (out8 : Int) (is9 : Bool) (v14 : Int) : List SV := [.dat (iN a0), .dat (iN a1), .dat (iN out8), .kb is9, .dat (sl_Kind a2), .dat (iN (List.length a2 : Int)), .dat (iN v14)]
def Bf49_3 (a0 : Int) (a1 : Int) (a2 : List Kind) (out8 : Int) (is9 : Bool) (v14 : Int) : List Blk := []
def Yf49_3 (a0 : Int) (a1 : Int) (a2 : List Kind) (y : Nat × Int × Bool × Int) : List SV := Vf49_3 a0 a1 a2 y.2.1 y.2.2.1 y.2.2.2
def Xf49_3 (a0 : Int) (a1 : Int) (a2 : List Kind) (y : Nat × Int × Bool × Int) : List Blk := Bf49_3 a0 a1 a2 y.2.1 y.2.2.1 y.2.2.2
def Jf49_3 (a0 : Int) (a1 : Int) (a2 : List Kind) (k0 : Int → Bool → Option (Int × Bool)) (r : Int × Bool) (y : Nat × Int × Bool × Int) : Prop := f49_3 a0 a1 a2 k0 y.1 y.2.1 y.2.2.1 y.2.2.2 = some r
theorem Lf49_3 {r : Int × Bool} {a0 : Int} {a1 : Int} {a2 : List Kind} {k0 : Int → Bool → Option (Int × Bool)} {fu : Nat} {out8 : Int} {is9 : Bool} {v14 : Int} (hz : Sf49_3.ok p = true) (h0 : AtH Sf49_3 st (Vf49_3 a0 a1 a2 out8 is9 v14) (Bf49_3 a0 a1 a2 out8 is9 v14)) (h : ∀ (n : Nat) (out8 : Int) (is9 : Bool) (v14 : Int), f49_3b (f49_3 a0 a1 a2 k0 n) a0 a1 a2 k0 out8 is9 v14 = some r → vc c p nid a (St.mk' Sf49_3 (Vf49_3 a0 a1 a2 out8 is9 v14) (Bf49_3 a0 a1 a2 out8 is9 v14)) (Kloop Sf49_3 (Yf49_3 a0 a1 a2) (Xf49_3 a0 a1 a2) (Jf49_3 a0 a1 a2 k0 r) Prod.fst (n + 1, out8, is9, v14) K)) (hF : f49_3 a0 a1 a2 k0 fu out8 is9 v14 = some r) : vc c p nid (.loop a) st K := by
  refine vc_loop Sf49_3 (Yf49_3 a0 a1 a2) (Xf49_3 a0 a1 a2) (Jf49_3 a0 a1 a2 k0 r) Prod.fst hz (kheadL (x := (fu, out8, is9, v14)) hF h0) ?_
  rintro ⟨_ | n, out8, is9, v14⟩ hI
  · cases hI
  · exact h n out8 is9 v14 hI
theorem Mf49_3 {r : Int × Bool} {a0 : Int} {a1 : Int} {a2 : List Kind} {k0 : Int → Bool → Option (Int × Bool)} {n : Nat} {out8 : Int} {is9 : Bool} {v14 : Int} {out8_ : Int} {is9_ : Bool} {v14_ : Int} (hF : f49_3 a0 a1 a2 k0 n out8 is9 v14 = some r) (h0 : AtH Sf49_3 st (Vf49_3 a0 a1 a2 out8 is9 v14) (Bf49_3 a0 a1 a2 out8 is9 v14)) : Kloop Sf49_3 (Yf49_3 a0 a1 a2) (Xf49_3 a0 a1 a2) (Jf49_3 a0 a1 a2 k0 r) Prod.fst (n + 1, out8_, is9_, v14_) K .normal st := by
  exact kback (y := (n, out8, is9, v14)) hF (Nat.lt_succ_self n) h0
def f49 (N : Nat) (a0 : Int) (a1 : Int) (a2 : List Kind) : Option (Int × Bool) :=
 joinK f49_c8 fun k0 =>
 f49_3 a0 a1 a2 k0 N (0 : Int) false (0 : Int)
def G49 (ds : List D) (d : D) : Prop := ∃ (N : Nat) (a0 : Int) (a1 : Int) (a2 : List Kind) (r : Int × Bool), ds = [iN a0, iN a1, sl_Kind a2] ∧ f49 N a0 a1 a2 = some r ∧ d = .tup [iN r.1, bN r.2]
theorem G49.step {N : Nat} {a0 : Int} {a1 : Int} {a2 : List Kind} {ρ : Type} {A : (Int × Bool) → Option ρ} {q : ρ} {ds : List D} {K : D → Prop} (hd : ds = [iN a0, iN a1, sl_Kind a2]) (h : ∀ r, A r = some q → K (.tup [iN r.1, bN r.2])) (hF : (f49 N a0 a1 a2).bind A = some q) : ∃ d, G49 ds d ∧ K d := by
  obtain ⟨r, hr, hA⟩ := bind_some hF
  exact ⟨_, ⟨N, a0, a1, a2, r, hd, hr, rfl⟩, h r hA⟩
set_option maxRecDepth 20000 in
set_option maxHeartbeats 4000000 in
theorem P49 : PureOK Try.prog 49 G49 := by
  refine pure_of_vc (c := mkCtx tyTree []) rfl tyOK (ctx_nil) [[0], [0]] 3 Try.func49 rfl rfl (by decide) (by kernel_rfl) ?_
  rintro ds d ⟨N, a0, a1, a2, r, rfl, hF, rfl⟩ hok
  clear hok
  refine ⟨rfl, ?_⟩
  show vc _ _ _ _ ⟨[(0, .dat (iN a0)), (1, .dat (iN a1)), (2, .dat (sl_Kind a2))], []⟩ _
  unfold f49 at hF
  repeat' (first
    | ((with_reducible refine q0 _ _ ?_); clear Q q0 q1 q2)
    | ((with_reducible refine q1 _ _ _ _ ?_); clear Q q0 q1 q2)
    | ((with_reducible refine q2 _ _ _ ?_); clear Q q0 q1 q2)
    | ((with_reducible refine seq_op ?hx (fun Q q0 q1 q2 => ?_)); (case hx => exact rfl); conv => whnf)
    | ((with_reducible refine seq_op0 ?hx (fun Q q0 q1 q2 => ?_)); (case hx => exact rfl); conv => whnf)
    | ((with_reducible refine seq_off ?hx ?_); (case hx => exact rfl))
    | ((with_reducible refine seq_off0 ?hx ?_); (case hx => exact rfl))
    | ((with_reducible refine seq_id ?_); (first | ((refine seq_opK rfl ?hy (fun Q q0 q1 q2 => ?_)); (case hy => first | assumption | exact notT (by assumption) | exact rfl); conv => whnf) | ((refine seq_offK rfl ?hy ?_); (case hy => first | assumption | exact notF (by assumption) | exact rfl)) | ((refine seq_opK0 rfl ?hy (fun Q q0 q1 q2 => ?_)); (case hy => first | assumption | exact notT (by assumption) | exact rfl); conv => whnf) | ((refine seq_offK0 rfl ?hy ?_); (case hy => first | assumption | exact notF (by assumption) | exact rfl)) | (revert hF; (with_reducible refine seq_opF ?hx ?_ ?_); (case hx => exact rfl); (intro hc hF Q q0 q1 q2; conv => whnf); rotate_left; (intro hc hF); rotate_right) | (revert hF; (with_reducible refine seq_opN ?hx ?_ ?_); (case hx => exact rfl); (intro hc hF); rotate_left; (intro hc hF Q q0 q1 q2; conv => whnf); rotate_right) | (revert hF; (with_reducible refine seq_opF0 ?hx ?_ ?_); (case hx => exact rfl); (intro hc hF Q q0 q1 q2; conv => whnf); rotate_left; (intro hc hF); rotate_right) | (revert hF; (with_reducible refine seq_opN0 ?hx ?_ ?_); (case hx => exact rfl); (intro hc hF); rotate_left; (intro hc hF Q q0 q1 q2; conv => whnf); rotate_right)))
    | ((with_reducible refine cond_id ?_); (first | ((refine condKT rfl ?hy ?_); (case hy => first | assumption | exact notT (by assumption) | exact rfl)) | ((refine condKF rfl ?hy ?_); (case hy => first | assumption | exact notF (by assumption) | exact rfl)) | (revert hF; (with_reducible refine condF ?hx ?_ ?_); (case hx => exact rfl); all_goals (intro hc hF))))
    | ((with_reducible refine seq_nil ?_); (first | ((with_reducible refine hR _ ?_); clear R hR) | ((with_reducible refine hL _ ?_); clear L hL)))
    | ((with_reducible refine int_step ?_); conv => whnf)
    | ((with_reducible refine len_step ?_); conv => whnf)
    | ((with_reducible refine idx2 (by assumption) ?_); conv => whnf)
    | ((with_reducible refine idx3 (by assumption) ?_); conv => whnf)
    | with_reducible refine vc_block ?_
    | with_reducible refine vc_skip ?_
    | with_reducible refine vc_ret ?_
    | with_reducible refine vc_exit ?_
    | ((with_reducible refine vc_seqN [8] ?hx ?_); (case hx => exact rfl))
    | (with_reducible refine vc_region (fun R hR => ?_))
    | fail
    | (revert hF; (refine Cf49_c8 rfl rfl ?_ ?_); (intro hF); rotate_left; (intro out8 is9 hF; unfold f49_c8 at hF); rotate_right)
    | exact Zf49_c8 hF ⟨_, rfl, rfl, rfl, rfl⟩
    | (revert hF; (refine Lf49_3 rfl ⟨_, rfl, rfl, rfl, rfl⟩ ?_); intro n out8 is9 v14 hF; unfold f49_3b at hF)
    | exact Mf49_3 hF ⟨_, rfl, rfl, rfl, rfl⟩
    | with_reducible refine k_seq_ret ?_
    | with_reducible refine k_seq_exit ?_
    | with_reducible refine k_blk ?_
    | with_reducible refine k_blk_ret ?_
    | with_reducible refine k_blk_here ?_
    | ((with_reducible refine k_blk_out ?hx ?_); (case hx => exact rfl))
    | with_reducible refine k_loop_ret ?_
    | with_reducible refine k_loop_exit ?_
    | (revert hF; (with_reducible refine idx1 ?hn ?_); (case hn => first | exact rfl | exact (List.length_map _) | assumption | omega | simp); intro x hx hF; conv => whnf)
    | ((refine row_all ?hn ?_); (case hn => first | exact rfl | (simp; done) | (simp; omega)); conv => whnf)
    | ((with_reducible refine le_step ?hn ?_); (case hn => first | exact rfl | assumption | omega); conv => whnf)
    | ((refine ⟨?hx, ?_⟩); (case hx => exact ⟨rfl, Nat.le_of_ble_eq_true rfl, rfl⟩); conv => whnf)
    | ((with_reducible refine ex_step ?_); conv => whnf)
    | ((with_reducible refine both_T ?hx ?_); (case hx => first | exact rfl | assumption | exact notT (by assumption)); conv => whnf)
    | ((with_reducible refine both_F ?hx ?_); (case hx => first | exact rfl | assumption | exact notF (by assumption)); conv => whnf)
    | (revert hF; (with_reducible refine ite_step ?_ ?_) <;> (intro hc hF; conv => whnf))
    | ((with_reducible refine vc_condT ?hx ?_); (case hx => exact rfl))
    | ((with_reducible refine vc_condF ?hx ?_); (case hx => exact rfl))
    | (show retD _ _ _ _ _ _; conv => whnf)
    | ((refine ⟨?hx, trivial⟩); (case hx => (cases hF; exact rfl)))
    | ((refine ⟨?hx, ?_⟩); (case hx => decide); conv => whnf)
    | ((with_reducible refine k_seq ?_))
    | (have hF : (none : Option _) = some _ := hF; cases hF))
end
end Go.Vc
namespace Go.Vc
open Go.Proofs
set_option linter.unusedVariables false
set_option linter.unnecessarySimpa false
set_option linter.unusedSimpArgs false
section
variable {c : Ctx} {p nid : Nat} {a b : Code} {st : St} {K : Ex → St → Prop}
/- f17: tusche/cut.Worth -/
def f17_c15 (sum7 : Int) : Option (Int × Int) :=
 some (sum7, (0 : Int))
def Sf17_c15 : Ann := ⟨[7], [], [], []⟩
def Vf17_c15 (sum7 : Int) : List SV := [.dat (iN sum7)]
def Bf17_c15 (sum7 : Int) : List Blk := []
def Yf17_c15 (y : Int) : List SV := Vf17_c15 y
def Xf17_c15 (y : Int) : List Blk := Bf17_c15 y
def Jf17_c15 (r : Int × Int) (y : Int) : Prop := f17_c15 y = some r
theorem Cf17_c15 {r : Int × Int} {g : _ → Option (Int × Int)} (hn : Nat.beq (nid * 1000 + firstRegion b) 15 = true) (hz : Sf17_c15.ok p = true) (h : g f17_c15 = some r → vc c p nid a st (KHead Sf17_c15 Yf17_c15 Xf17_c15 (Jf17_c15 r) K)) (h2 : ∀ (sum7 : Int), f17_c15 sum7 = some r → vc c p nid b (St.mk' Sf17_c15 (Vf17_c15 sum7) (Bf17_c15 sum7)) K) (hF : joinK f17_c15 g = some r) : vc c p nid (.seq a b) st K :=
  vc_cut Sf17_c15 Yf17_c15 Xf17_c15 (Jf17_c15 r) hz (h hF) fun y hy => h2 y hy
theorem Zf17_c15 {r : Int × Int} {sum7 : Int} (hF : f17_c15 sum7 = some r) (h0 : AtH Sf17_c15 st (Vf17_c15 sum7) (Bf17_c15 sum7)) : KHead Sf17_c15 Yf17_c15 Xf17_c15 (Jf17_c15 r) K .normal st := by
  exact khead (I := (Jf17_c15 r)) (x := (sum7)) hF h0
def f17_8b (r8 : Int → Int → Option (Int × Int)) (a0 : Layout) (a1 : List Kind) (N : Nat) (k0 : Int → Option (Int × Int)) (sum7 : Int) (v24 : Int) : Option (Int × Int) :=
 bif decide (v24 < (List.length a0.Labels : Int)) then ((ix a0.Labels v24).bind fun x2 =>
 (f49 N x2.W x2.H a1).bind fun x3 =>
 bif !x3.2 then (some ((0 : Int), (13 : Int)))
 else (r8 (W (sum7 + x3.1)) (W (v24 + (1 : Int)))))
 else (k0 sum7)
def f17_8 (a0 : Layout) (a1 : List Kind) (N : Nat) (k0 : Int → Option (Int × Int)) : Nat → Int → Int → Option (Int × Int)
  | 0, _, _ => none
  | n + 1, sum7, v24 => f17_8b (f17_8 a0 a1 N k0 n) a0 a1 N k0 sum7 v24
def Sf17_8 : Ann := ⟨[1, 7, 22, 23, 24], [], [], []⟩
def Vf17_8 (a0 : Layout) (a1 : List Kind) (sum7 : Int) (v24 : Int) : List SV := [.dat (sl_Kind a1), .dat (iN sum7), .dat (sl_Label a0.Labels), .dat (iN (List.length a0.Labels : Int)), .dat (iN v24)]
def Bf17_8 (a0 : Layout) (a1 : List Kind) (sum7 : Int) (v24 : Int) : List Blk := []
def Yf17_8 (a0 : Layout) (a1 : List Kind) (y : Nat × Int × Int) : List SV := Vf17_8 a0 a1 y.2.1 y.2.2
def Xf17_8 (a0 : Layout) (a1 : List Kind) (y : Nat × Int × Int) : List Blk := Bf17_8 a0 a1 y.2.1 y.2.2
def Jf17_8 (a0 : Layout) (a1 : List Kind) (N : Nat) (k0 : Int → Option (Int × Int)) (r : Int × Int) (y : Nat × Int × Int) : Prop := f17_8 a0 a1 N k0 y.1 y.2.1 y.2.2 = some r
theorem Lf17_8 {r : Int × Int} {a0 : Layout} {a1 : List Kind} {N : Nat} {k0 : Int → Option (Int × Int)} {fu : Nat} {sum7 : Int} {v24 : Int} (hz : Sf17_8.ok p = true) (h0 : AtH Sf17_8 st (Vf17_8 a0 a1 sum7 v24) (Bf17_8 a0 a1 sum7 v24)) (h : ∀ (n : Nat) (sum7 : Int) (v24 : Int), f17_8b (f17_8 a0 a1 N k0 n) a0 a1 N k0 sum7 v24 = some r → vc c p nid a (St.mk' Sf17_8 (Vf17_8 a0 a1 sum7 v24) (Bf17_8 a0 a1 sum7 v24)) (Kloop Sf17_8 (Yf17_8 a0 a1) (Xf17_8 a0 a1) (Jf17_8 a0 a1 N k0 r) Prod.fst (n + 1, sum7, v24) K)) (hF : f17_8 a0 a1 N k0 fu sum7 v24 = some r) : vc c p nid (.loop a) st K := by
  refine vc_loop Sf17_8 (Yf17_8 a0 a1) (Xf17_8 a0 a1) (Jf17_8 a0 a1 N k0 r) Prod.fst hz (kheadL (x := (fu, sum7, v24)) hF h0) ?_
  rintro ⟨_ | n, sum7, v24⟩ hI
  · cases hI
  · exact h n sum7 v24 hI
theorem Mf17_8 {r : Int × Int} {a0 : Layout} {a1 : List Kind} {N : Nat} {k0 : Int → Option (Int × Int)} {n : Nat} {sum7 : Int} {v24 : Int} {sum7_ : Int} {v24_ : Int} (hF : f17_8 a0 a1 N k0 n sum7 v24 = some r) (h0 : AtH Sf17_8 st (Vf17_8 a0 a1 sum7 v24) (Bf17_8 a0 a1 sum7 v24)) : Kloop Sf17_8 (Yf17_8 a0 a1) (Xf17_8 a0 a1) (Jf17_8 a0 a1 N k0 r) Prod.fst (n + 1, sum7_, v24_) K .normal st := by
  exact kback (y := (n, sum7, v24)) hF (Nat.lt_succ_self n) h0
def f17_c4 (a0 : Layout) (a1 : List Kind) (N : Nat) (e6 : Int) : Option (Int × Int) :=
 bif decide (¬ e6 = (0 : Int)) then (some ((0 : Int), e6))
 else (joinK f17_c15 fun k0 =>
 f17_8 a0 a1 N k0 N (0 : Int) (0 : Int))
def Sf17_c4 : Ann := ⟨[1, 2, 6], [0], [], []⟩
def Vf17_c4 (a0 : Layout) (a1 : List Kind) (e6 : Int) : List SV := [.dat (sl_Kind a1), .ptr 0 0, .dat (iN e6)]
def Bf17_c4 (a0 : Layout) (a1 : List Kind) (e6 : Int) : List Blk := [.box [.dat (iN a0.W), .dat (iN a0.H), .dat (sl_Label a0.Labels)]]
def Yf17_c4 (a0 : Layout) (a1 : List Kind) (y : Int) : List SV := Vf17_c4 a0 a1 y
def Xf17_c4 (a0 : Layout) (a1 : List Kind) (y : Int) : List Blk := Bf17_c4 a0 a1 y
def Jf17_c4 (a0 : Layout) (a1 : List Kind) (N : Nat) (r : Int × Int) (y : Int) : Prop := f17_c4 a0 a1 N y = some r
theorem Cf17_c4 {r : Int × Int} {a0 : Layout} {a1 : List Kind} {N : Nat} {g : _ → Option (Int × Int)} (hn : Nat.beq (nid * 1000 + firstRegion b) 4 = true) (hz : Sf17_c4.ok p = true) (h : g (f17_c4 a0 a1 N) = some r → vc c p nid a st (KHead Sf17_c4 (Yf17_c4 a0 a1) (Xf17_c4 a0 a1) (Jf17_c4 a0 a1 N r) K)) (h2 : ∀ (e6 : Int), f17_c4 a0 a1 N e6 = some r → vc c p nid b (St.mk' Sf17_c4 (Vf17_c4 a0 a1 e6) (Bf17_c4 a0 a1 e6)) K) (hF : joinK (f17_c4 a0 a1 N) g = some r) : vc c p nid (.seq a b) st K :=
  vc_cut Sf17_c4 (Yf17_c4 a0 a1) (Xf17_c4 a0 a1) (Jf17_c4 a0 a1 N r) hz (h hF) fun y hy => h2 y hy
theorem Zf17_c4 {r : Int × Int} {a0 : Layout} {a1 : List Kind} {N : Nat} {e6 : Int} (hF : f17_c4 a0 a1 N e6 = some r) (h0 : AtH Sf17_c4 st (Vf17_c4 a0 a1 e6) (Bf17_c4 a0 a1 e6)) : KHead Sf17_c4 (Yf17_c4 a0 a1) (Xf17_c4 a0 a1) (Jf17_c4 a0 a1 N r) K .normal st := by
  exact khead (I := (Jf17_c4 a0 a1 N r)) (x := (e6)) hF h0
def f17 (N : Nat) (a0 : Layout) (a1 : List Kind) : Option (Int × Int) :=
 (f20 N a0).bind fun x1 =>
 joinK (f17_c4 a0 a1 N) fun k1 =>
 bif decide (x1 = (0 : Int)) then ((f48 N a1).bind fun x4 =>
 k1 x4)
 else (k1 x1)
def G17 (ds : List D) (d : D) : Prop := ∃ (N : Nat) (a0 : Layout) (a1 : List Kind) (r : Int × Int), ds = [Layout.d a0, sl_Kind a1] ∧ f17 N a0 a1 = some r ∧ d = .tup [iN r.1, iN r.2]
theorem G17.step {N : Nat} {a0 : Layout} {a1 : List Kind} {ρ : Type} {A : (Int × Int) → Option ρ} {q : ρ} {ds : List D} {K : D → Prop} (hd : ds = [Layout.d a0, sl_Kind a1]) (h : ∀ r, A r = some q → K (.tup [iN r.1, iN r.2])) (hF : (f17 N a0 a1).bind A = some q) : ∃ d, G17 ds d ∧ K d := by
  obtain ⟨r, hr, hA⟩ := bind_some hF
  exact ⟨_, ⟨N, a0, a1, r, hd, hr, rfl⟩, h r hA⟩
set_option maxRecDepth 20000 in
set_option maxHeartbeats 4000000 in
theorem P17 : PureOK Try.prog 17 G17 := by
  refine pure_of_vc (c := mkCtx tyTree [(49, true, purePg [[0], [0], [3]] G49), (48, true, purePg [[3]] G48), (20, true, purePg [[0, 0, 4]] G20)]) rfl tyOK (ctx_cons (callable Try.func49 rfl rfl) P49 (ctx_cons (callable Try.func48 rfl rfl) P48 (ctx_cons (callable Try.func20 rfl rfl) P20 (ctx_nil)))) [[0], [0]] 2 Try.func17 rfl rfl (by decide) (by kernel_rfl) ?_
  rintro ds d ⟨N, a0, a1, r, rfl, hF, rfl⟩ hok
  clear hok
  refine ⟨rfl, ?_⟩
  show vc _ _ _ _ ⟨[(0, .dat (Layout.d a0)), (1, .dat (sl_Kind a1))], []⟩ _
  unfold f17 at hF
  repeat' (first
    | ((with_reducible refine q0 _ _ ?_); clear Q q0 q1 q2)
    | ((with_reducible refine q1 _ _ _ _ ?_); clear Q q0 q1 q2)
    | ((with_reducible refine q2 _ _ _ ?_); clear Q q0 q1 q2)
    | ((with_reducible refine seq_op ?hx (fun Q q0 q1 q2 => ?_)); (case hx => exact rfl); conv => whnf)
    | ((with_reducible refine seq_op0 ?hx (fun Q q0 q1 q2 => ?_)); (case hx => exact rfl); conv => whnf)
    | ((with_reducible refine cond_id ?_); (first | ((refine condKT rfl ?hy ?_); (case hy => first | assumption | exact notT (by assumption) | exact rfl)) | ((refine condKF rfl ?hy ?_); (case hy => first | assumption | exact notF (by assumption) | exact rfl)) | (revert hF; (with_reducible refine condF ?hx ?_ ?_); (case hx => exact rfl); all_goals (intro hc hF))))
    | ((with_reducible refine seq_nil ?_); (first | ((with_reducible refine hR _ ?_); clear R hR) | ((with_reducible refine hL _ ?_); clear L hL)))
    | ((with_reducible refine int_step ?_); conv => whnf)
    | ((with_reducible refine len_step ?_); conv => whnf)
    | ((with_reducible refine idx2 (by assumption) ?_); conv => whnf)
    | ((with_reducible refine idx3 (by assumption) ?_); conv => whnf)
    | with_reducible refine vc_block ?_
    | with_reducible refine vc_skip ?_
    | with_reducible refine vc_ret ?_
    | with_reducible refine vc_exit ?_
    | ((with_reducible refine vc_seqN [15, 4] ?hx ?_); (case hx => exact rfl))
    | (with_reducible refine vc_region (fun R hR => ?_))
    | fail
    | (revert hF; (refine Cf17_c15 rfl rfl ?_ ?_); (intro hF); rotate_left; (intro sum7 hF; unfold f17_c15 at hF); rotate_right)
    | exact Zf17_c15 hF ⟨_, rfl, rfl, rfl, rfl⟩
    | (revert hF; (refine Lf17_8 rfl ⟨_, rfl, rfl, rfl, rfl⟩ ?_); intro n sum7 v24 hF; unfold f17_8b at hF)
    | exact Mf17_8 hF ⟨_, rfl, rfl, rfl, rfl⟩
    | (revert hF; (refine Cf17_c4 rfl rfl ?_ ?_); (intro hF); rotate_left; (intro e6 hF; unfold f17_c4 at hF); rotate_right)
    | exact Zf17_c4 hF ⟨_, rfl, rfl, rfl, rfl⟩
    | (revert hF; (with_reducible refine G20.step ?hx ?_); (case hx => exact rfl); intro v hF; conv => whnf)
    | (revert hF; (with_reducible refine G48.step ?hx ?_); (case hx => exact rfl); intro v hF; conv => whnf)
    | (revert hF; (with_reducible refine G49.step ?hx ?_); (case hx => exact rfl); intro v hF; conv => whnf)
    | with_reducible refine k_seq_ret ?_
    | with_reducible refine k_seq_exit ?_
    | with_reducible refine k_blk ?_
    | with_reducible refine k_blk_ret ?_
    | with_reducible refine k_blk_here ?_
    | ((with_reducible refine k_blk_out ?hx ?_); (case hx => exact rfl))
    | with_reducible refine k_loop_ret ?_
    | with_reducible refine k_loop_exit ?_
    | (revert hF; (with_reducible refine idx1 ?hn ?_); (case hn => first | exact rfl | exact (List.length_map _) | assumption | omega | simp); intro x hx hF; conv => whnf)
    | ((refine row_all ?hn ?_); (case hn => first | exact rfl | (simp; done) | (simp; omega)); conv => whnf)
    | ((with_reducible refine le_step ?hn ?_); (case hn => first | exact rfl | assumption | omega); conv => whnf)
    | ((refine ⟨?hx, ?_⟩); (case hx => exact ⟨rfl, Nat.le_of_ble_eq_true rfl, rfl⟩); conv => whnf)
    | ((with_reducible refine ex_step ?_); conv => whnf)
    | ((with_reducible refine both_T ?hx ?_); (case hx => first | exact rfl | assumption | exact notT (by assumption)); conv => whnf)
    | ((with_reducible refine both_F ?hx ?_); (case hx => first | exact rfl | assumption | exact notF (by assumption)); conv => whnf)
    | (revert hF; (with_reducible refine ite_step ?_ ?_) <;> (intro hc hF; conv => whnf))
    | ((with_reducible refine vc_condT ?hx ?_); (case hx => exact rfl))
    | ((with_reducible refine vc_condF ?hx ?_); (case hx => exact rfl))
    | (show retD _ _ _ _ _ _; conv => whnf)
    | ((refine ⟨?hx, trivial⟩); (case hx => (cases hF; exact rfl)))
    | ((refine ⟨?hx, ?_⟩); (case hx => decide); conv => whnf)
    | ((with_reducible refine k_seq ?_))
    | (have hF : (none : Option _) = some _ := hF; cases hF))
end
end Go.Vc
namespace Go.Vc
open Go.Proofs
set_option linter.unusedVariables false
set_option linter.unnecessarySimpa false
set_option linter.unusedSimpArgs false
section
variable {c : Ctx} {p nid : Nat} {a b : Code} {st : St} {K : Ex → St → Prop}
/- f58: tusche/cut.planned -/
def f58_i102_c11 (a0 : Layout) (b1_0 : List Cut) : Option ((List Cut) × Piece × Bool) :=
 some (b1_0, (Piece.mk (Label.mk (0 : Int) (0 : Int) (0 : Int) (0 : Int)) []), true)
def Sf58_i102_c11 : Ann := ⟨[4], [0, 1, 2, 103000001, 103090500], [(.cell 1 0, 103090500, 45, 2)], []⟩
def Vf58_i102_c11 (a0 : Layout) (b1_0 : List Cut) : List SV := [.ptr 103000001 0]
def Bf58_i102_c11 (a0 : Layout) (b1_0 : List Cut) : List Blk := [.box [.dat (iN a0.W), .dat (iN a0.H), .dat (sl_Label a0.Labels)], .box [.rs 103090500 (List.length b1_0)], .box [.dat (iN (0 : Int)), .dat (iN (0 : Int)), .dat (iN (0 : Int)), .dat (iN (0 : Int)), .nil], .box [.dat (iN (0 : Int)), .dat (iN (0 : Int)), .dat (iN (0 : Int)), .dat (iN (0 : Int)), .nil], .row 45 2 (List.map Cut.d b1_0)]
def Yf58_i102_c11 (a0 : Layout) (y : (List Cut)) : List SV := Vf58_i102_c11 a0 y
def Xf58_i102_c11 (a0 : Layout) (y : (List Cut)) : List Blk := Bf58_i102_c11 a0 y
def Jf58_i102_c11 (a0 : Layout) (r : (List Cut) × Piece × Bool) (y : (List Cut)) : Prop := f58_i102_c11 a0 y = some r
def V2f58_i102_c11 (a0 : Layout) (b1_0 : List Cut) (m0 : Nat) : List SV := [.ptr 103000001 0]
def B2f58_i102_c11 (a0 : Layout) (b1_0 : List Cut) (m0 : Nat) : List Blk := [.box [.dat (iN a0.W), .dat (iN a0.H), .dat (sl_Label a0.Labels)], .box [.rs 103090500 m0], .box [.dat (iN (0 : Int)), .dat (iN (0 : Int)), .dat (iN (0 : Int)), .dat (iN (0 : Int)), .nil], .box [.dat (iN (0 : Int)), .dat (iN (0 : Int)), .dat (iN (0 : Int)), .dat (iN (0 : Int)), .nil], .row 45 2 (List.map Cut.d b1_0)]
theorem Cf58_i102_c11 {r : (List Cut) × Piece × Bool} {a0 : Layout} {g : _ → Option ((List Cut) × Piece × Bool)} (hn : Nat.beq (nid * 1000 + firstRegion b) 103000000011 = true) (hz : Sf58_i102_c11.ok p = true) (h : g (f58_i102_c11 a0) = some r → vc c p nid a st (KHead Sf58_i102_c11 (Yf58_i102_c11 a0) (Xf58_i102_c11 a0) (Jf58_i102_c11 a0 r) K)) (h2 : ∀ (b1_0 : List Cut), f58_i102_c11 a0 b1_0 = some r → vc c p nid b (St.mk' Sf58_i102_c11 (Vf58_i102_c11 a0 b1_0) (Bf58_i102_c11 a0 b1_0)) K) (hF : joinK (f58_i102_c11 a0) g = some r) : vc c p nid (.seq a b) st K :=
  vc_cut Sf58_i102_c11 (Yf58_i102_c11 a0) (Xf58_i102_c11 a0) (Jf58_i102_c11 a0 r) hz (h hF) fun y hy => h2 y hy
theorem Zf58_i102_c11 {r : (List Cut) × Piece × Bool} {a0 : Layout} {b1_0 : List Cut} {m0 : Nat} (hF : f58_i102_c11 a0 b1_0 = some r) (h0 : AtH Sf58_i102_c11 st (V2f58_i102_c11 a0 b1_0 m0) (B2f58_i102_c11 a0 b1_0 m0)) (em0 : m0 = List.length b1_0) : KHead Sf58_i102_c11 (Yf58_i102_c11 a0) (Xf58_i102_c11 a0) (Jf58_i102_c11 a0 r) K .normal st := by
  subst em0; exact khead (I := (Jf58_i102_c11 a0 r)) (x := (b1_0)) hF h0
def f58_i102_c7 (a0 : Layout) (N : Nat) (r2 : (List Piece) → (List Cut) → Option ((List Cut) × Piece × Bool)) (x2 : Piece) (x3 : List Piece) (is9 : Bool) (b606_0 : Bool) (b606_1 : Int) (b1_0' : List Cut) : Option ((List Cut) × Piece × Bool) :=
 (f69 N x2 (Cut.mk b606_0 b606_1)).bind fun x4 =>
 bif !is9 then (some (b1_0', x2, false))
 else (bif !x4.2.2 then (some (b1_0', x2, false))
 else ((app 56 x3 [x4.2.1, x4.1]).bind fun x5 =>
 r2 x5 (b1_0')))
def Sf58_i102_c7 : Ann := ⟨[1, 4, 6, 7, 8, 9], [0, 1, 2, 103000001, 103000306, 103000606, 103090006, 103090500], [(.cell 1 0, 103090500, 45, 2)], []⟩
def Vf58_i102_c7 (a0 : Layout) (x2 : Piece) (x3 : List Piece) (is9 : Bool) (b606_0 : Bool) (b606_1 : Int) (b1_0' : List Cut) : List SV := [.fn 73 [] [.ptr 1 0], .ptr 103000001 0, .rs 103090006 (List.length x3), .ptr 103000306 0, .ptr 103000606 0, .kb is9]
def Bf58_i102_c7 (a0 : Layout) (x2 : Piece) (x3 : List Piece) (is9 : Bool) (b606_0 : Bool) (b606_1 : Int) (b1_0' : List Cut) : List Blk := [.box [.dat (iN a0.W), .dat (iN a0.H), .dat (sl_Label a0.Labels)], .box [.rs 103090500 (List.length (b1_0'))], .box [.dat (iN (0 : Int)), .dat (iN (0 : Int)), .dat (iN (0 : Int)), .dat (iN (0 : Int)), .nil], .box [.dat (iN (0 : Int)), .dat (iN (0 : Int)), .dat (iN (0 : Int)), .dat (iN (0 : Int)), .nil], .box [.dat (iN x2.Label_.X), .dat (iN x2.Label_.Y), .dat (iN x2.Label_.W), .dat (iN x2.Label_.H), .dat (sl_Label x2.labels)], .box [.kb b606_0, .dat (iN b606_1)], .row 96 5 (List.map Piece.d x3), .row 45 2 (List.map Cut.d (b1_0'))]
def Yf58_i102_c7 (a0 : Layout) (x2 : Piece) (x3 : List Piece) (y : Bool × Bool × Int × (List Cut)) : List SV := Vf58_i102_c7 a0 x2 x3 y.1 y.2.1 y.2.2.1 y.2.2.2
def Xf58_i102_c7 (a0 : Layout) (x2 : Piece) (x3 : List Piece) (y : Bool × Bool × Int × (List Cut)) : List Blk := Bf58_i102_c7 a0 x2 x3 y.1 y.2.1 y.2.2.1 y.2.2.2
def Jf58_i102_c7 (a0 : Layout) (N : Nat) (r2 : (List Piece) → (List Cut) → Option ((List Cut) × Piece × Bool)) (x2 : Piece) (x3 : List Piece) (r : (List Cut) × Piece × Bool) (y : Bool × Bool × Int × (List Cut)) : Prop := f58_i102_c7 a0 N r2 x2 x3 y.1 y.2.1 y.2.2.1 y.2.2.2 = some r
def V2f58_i102_c7 (a0 : Layout) (x2 : Piece) (x3 : List Piece) (is9 : Bool) (b606_0 : Bool) (b606_1 : Int) (b1_0' : List Cut) (m0 : Nat) (m1 : Nat) : List SV := [.fn 73 [] [.ptr 1 0], .ptr 103000001 0, .rs 103090006 m0, .ptr 103000306 0, .ptr 103000606 0, .kb is9]
def B2f58_i102_c7 (a0 : Layout) (x2 : Piece) (x3 : List Piece) (is9 : Bool) (b606_0 : Bool) (b606_1 : Int) (b1_0' : List Cut) (m0 : Nat) (m1 : Nat) : List Blk := [.box [.dat (iN a0.W), .dat (iN a0.H), .dat (sl_Label a0.Labels)], .box [.rs 103090500 m1], .box [.dat (iN (0 : Int)), .dat (iN (0 : Int)), .dat (iN (0 : Int)), .dat (iN (0 : Int)), .nil], .box [.dat (iN (0 : Int)), .dat (iN (0 : Int)), .dat (iN (0 : Int)), .dat (iN (0 : Int)), .nil], .box [.dat (iN x2.Label_.X), .dat (iN x2.Label_.Y), .dat (iN x2.Label_.W), .dat (iN x2.Label_.H), .dat (sl_Label x2.labels)], .box [.kb b606_0, .dat (iN b606_1)], .row 96 5 (List.map Piece.d x3), .row 45 2 (List.map Cut.d (b1_0'))]
theorem Cf58_i102_c7 {r : (List Cut) × Piece × Bool} {a0 : Layout} {N : Nat} {r2 : (List Piece) → (List Cut) → Option ((List Cut) × Piece × Bool)} {x2 : Piece} {x3 : List Piece} {g : _ → Option ((List Cut) × Piece × Bool)} (hn : Nat.beq (nid * 1000 + firstRegion b) 103000000007 = true) (hz : Sf58_i102_c7.ok p = true) (h : g (f58_i102_c7 a0 N r2 x2 x3) = some r → vc c p nid a st (KHead Sf58_i102_c7 (Yf58_i102_c7 a0 x2 x3) (Xf58_i102_c7 a0 x2 x3) (Jf58_i102_c7 a0 N r2 x2 x3 r) K)) (h2 : ∀ (is9 : Bool) (b606_0 : Bool) (b606_1 : Int) (b1_0' : List Cut), f58_i102_c7 a0 N r2 x2 x3 is9 b606_0 b606_1 b1_0' = some r → vc c p nid b (St.mk' Sf58_i102_c7 (Vf58_i102_c7 a0 x2 x3 is9 b606_0 b606_1 b1_0') (Bf58_i102_c7 a0 x2 x3 is9 b606_0 b606_1 b1_0')) K) (hF : joinK (f58_i102_c7 a0 N r2 x2 x3) g = some r) : vc c p nid (.seq a b) st K :=
  vc_cut Sf58_i102_c7 (Yf58_i102_c7 a0 x2 x3) (Xf58_i102_c7 a0 x2 x3) (Jf58_i102_c7 a0 N r2 x2 x3 r) hz (h hF) fun y hy => h2 y.1 y.2.1 y.2.2.1 y.2.2.2 hy
theorem Zf58_i102_c7 {r : (List Cut) × Piece × Bool} {a0 : Layout} {N : Nat} {r2 : (List Piece) → (List Cut) → Option ((List Cut) × Piece × Bool)} {x2 : Piece} {x3 : List Piece} {is9 : Bool} {b606_0 : Bool} {b606_1 : Int} {b1_0' : List Cut} {m0 : Nat} {m1 : Nat} (hF : f58_i102_c7 a0 N r2 x2 x3 is9 b606_0 b606_1 b1_0' = some r) (h0 : AtH Sf58_i102_c7 st (V2f58_i102_c7 a0 x2 x3 is9 b606_0 b606_1 b1_0' m0 m1) (B2f58_i102_c7 a0 x2 x3 is9 b606_0 b606_1 b1_0' m0 m1)) (em0 : m0 = List.length x3) (em1 : m1 = List.length (b1_0')) : KHead Sf58_i102_c7 (Yf58_i102_c7 a0 x2 x3) (Xf58_i102_c7 a0 x2 x3) (Jf58_i102_c7 a0 N r2 x2 x3 r) K .normal st := by
  subst em0 em1; exact khead (I := (Jf58_i102_c7 a0 N r2 x2 x3 r)) (x := (is9, b606_0, b606_1, b1_0')) hF h0
def f58_i102_2b (r2 : (List Piece) → (List Cut) → Option ((List Cut) × Piece × Bool)) (a0 : Layout) (N : Nat) (k0 : (List Cut) → Option ((List Cut) × Piece × Bool)) (stack6 : List Piece) (b1_0 : List Cut) : Option ((List Cut) × Piece × Bool) :=
 bif decide ((0 : Int) < (List.length stack6 : Int)) then ((ix stack6 (W ((List.length stack6 : Int) - (1 : Int)))).bind fun x2 =>
 (sub stack6 0 (W ((List.length stack6 : Int) - (1 : Int)))).bind fun x3 =>
 bif decide ((List.length x2.labels : Int) < (2 : Int)) then (r2 x3 b1_0)
 else (joinK (f58_i102_c7 a0 N r2 x2 x3) fun k1 =>
 (f45 N x2).bind fun x6 =>
 bif decide ((List.length x6 : Int) = (0 : Int)) then (k1 false false (0 : Int) b1_0)
 else ((ix x6 (0 : Int)).bind fun x7 =>
 (app 16 b1_0 [x7]).bind fun x8 =>
 (ix x6 (0 : Int)).bind fun x9 =>
 k1 true x9.Up x9.At x8)))
 else (k0 b1_0)
def f58_i102_2 (a0 : Layout) (N : Nat) (k0 : (List Cut) → Option ((List Cut) × Piece × Bool)) : Nat → (List Piece) → (List Cut) → Option ((List Cut) × Piece × Bool)
  | 0, _, _ => none
  | n + 1, stack6, b1_0 => f58_i102_2b (f58_i102_2 a0 N k0 n) a0 N k0 stack6 b1_0
def Sf58_i102_2 : Ann := ⟨[1, 4, 6], [0, 1, 2, 103000001, 103090006, 103090520], [(.slot 6, 103090006, 96, 5), (.cell 1 0, 103090520, 45, 2)], []⟩
def Vf58_i102_2 (a0 : Layout) (stack6 : List Piece) (b1_0 : List Cut) : List SV := [.fn 73 [] [.ptr 1 0], .ptr 103000001 0, .rs 103090006 (List.length stack6)]
def Bf58_i102_2 (a0 : Layout) (stack6 : List Piece) (b1_0 : List Cut) : List Blk := [.box [.dat (iN a0.W), .dat (iN a0.H), .dat (sl_Label a0.Labels)], .box [.rs 103090520 (List.length b1_0)], .box [.dat (iN (0 : Int)), .dat (iN (0 : Int)), .dat (iN (0 : Int)), .dat (iN (0 : Int)), .nil], .box [.dat (iN (0 : Int)), .dat (iN (0 : Int)), .dat (iN (0 : Int)), .dat (iN (0 : Int)), .nil], .row 96 5 (List.map Piece.d stack6), .row 45 2 (List.map Cut.d b1_0)]
def Yf58_i102_2 (a0 : Layout) (y : Nat × (List Piece) × (List Cut)) : List SV := Vf58_i102_2 a0 y.2.1 y.2.2
def Xf58_i102_2 (a0 : Layout) (y : Nat × (List Piece) × (List Cut)) : List Blk := Bf58_i102_2 a0 y.2.1 y.2.2
def Jf58_i102_2 (a0 : Layout) (N : Nat) (k0 : (List Cut) → Option ((List Cut) × Piece × Bool)) (r : (List Cut) × Piece × Bool) (y : Nat × (List Piece) × (List Cut)) : Prop := f58_i102_2 a0 N k0 y.1 y.2.1 y.2.2 = some r
def V2f58_i102_2 (a0 : Layout) (stack6 : List Piece) (b1_0 : List Cut) (m0 : Nat) (m1 : Nat) : List SV := [.fn 73 [] [.ptr 1 0], .ptr 103000001 0, .rs 103090006 m0]
def B2f58_i102_2 (a0 : Layout) (stack6 : List Piece) (b1_0 : List Cut) (m0 : Nat) (m1 : Nat) : List Blk := [.box [.dat (iN a0.W), .dat (iN a0.H), .dat (sl_Label a0.Labels)], .box [.rs 103090520 m1], .box [.dat (iN (0 : Int)), .dat (iN (0 : Int)), .dat (iN (0 : Int)), .dat (iN (0 : Int)), .nil], .box [.dat (iN (0 : Int)), .dat (iN (0 : Int)), .dat (iN (0 : Int)), .dat (iN (0 : Int)), .nil], .row 96 5 (List.map Piece.d stack6), .row 45 2 (List.map Cut.d b1_0)]
theorem Lf58_i102_2 {r : (List Cut) × Piece × Bool} {a0 : Layout} {N : Nat} {k0 : (List Cut) → Option ((List Cut) × Piece × Bool)} {fu : Nat} {stack6 : List Piece} {b1_0 : List Cut} {m0 : Nat} {m1 : Nat} (hz : Sf58_i102_2.ok p = true) (h0 : AtH Sf58_i102_2 st (V2f58_i102_2 a0 stack6 b1_0 m0 m1) (B2f58_i102_2 a0 stack6 b1_0 m0 m1)) (em0 : m0 = List.length stack6) (em1 : m1 = List.length b1_0) (h : ∀ (n : Nat) (stack6 : List Piece) (b1_0 : List Cut), f58_i102_2b (f58_i102_2 a0 N k0 n) a0 N k0 stack6 b1_0 = some r → vc c p nid a (St.mk' Sf58_i102_2 (Vf58_i102_2 a0 stack6 b1_0) (Bf58_i102_2 a0 stack6 b1_0)) (Kloop Sf58_i102_2 (Yf58_i102_2 a0) (Xf58_i102_2 a0) (Jf58_i102_2 a0 N k0 r) Prod.fst (n + 1, stack6, b1_0) K)) (hF : f58_i102_2 a0 N k0 fu stack6 b1_0 = some r) : vc c p nid (.loop a) st K := by
  subst em0 em1; refine vc_loop Sf58_i102_2 (Yf58_i102_2 a0) (Xf58_i102_2 a0) (Jf58_i102_2 a0 N k0 r) Prod.fst hz (kheadL (x := (fu, stack6, b1_0)) hF h0) ?_
  rintro ⟨_ | n, stack6, b1_0⟩ hI
  · cases hI
  · exact h n stack6 b1_0 hI
theorem Mf58_i102_2 {r : (List Cut) × Piece × Bool} {a0 : Layout} {N : Nat} {k0 : (List Cut) → Option ((List Cut) × Piece × Bool)} {n : Nat} {stack6 : List Piece} {b1_0 : List Cut} {stack6_ : List Piece} {b1_0_ : List Cut} {m0 : Nat} {m1 : Nat} (hF : f58_i102_2 a0 N k0 n stack6 b1_0 = some r) (h0 : AtH Sf58_i102_2 st (V2f58_i102_2 a0 stack6 b1_0 m0 m1) (B2f58_i102_2 a0 stack6 b1_0 m0 m1)) (em0 : m0 = List.length stack6) (em1 : m1 = List.length b1_0) : Kloop Sf58_i102_2 (Yf58_i102_2 a0) (Xf58_i102_2 a0) (Jf58_i102_2 a0 N k0 r) Prod.fst (n + 1, stack6_, b1_0_) K .normal st := by
  subst em0 em1; exact kback (y := (n, stack6, b1_0)) hF (Nat.lt_succ_self n) h0
def f58 (N : Nat) (a0 : Layout) : Option ((List Cut) × Piece × Bool) :=
 (f44 N a0).bind fun x1 =>
 joinK (f58_i102_c11 a0) fun k0 =>
 f58_i102_2 a0 N k0 N [x1] []
def G58 (ds : List D) (d : D) : Prop := ∃ (N : Nat) (a0 : Layout) (r : (List Cut) × Piece × Bool), ds = [Layout.d a0] ∧ f58 N a0 = some r ∧ d = .tup [sl_Cut r.1, Piece.d r.2.1, bN r.2.2]
theorem G58.step {N : Nat} {a0 : Layout} {ρ : Type} {A : ((List Cut) × Piece × Bool) → Option ρ} {q : ρ} {ds : List D} {K : D → Prop} (hd : ds = [Layout.d a0]) (h : ∀ r, A r = some q → K (.tup [sl_Cut r.1, Piece.d r.2.1, bN r.2.2])) (hF : (f58 N a0).bind A = some q) : ∃ d, G58 ds d ∧ K d := by
  obtain ⟨r, hr, hA⟩ := bind_some hF
  exact ⟨_, ⟨N, a0, r, hd, hr, rfl⟩, h r hA⟩
set_option maxRecDepth 20000 in
set_option maxHeartbeats 4000000 in
theorem P58 : PureOK Try.prog 58 G58 := by
  refine pure_of_vc (c := mkCtx tyTree [(60, false, inlPg (mkCtx tyTree [(73, false, inlPg (mkCtx tyTree [(45, true, purePg [[0, 0, 0, 0, 4]] G45)]) Try.f73), (69, true, purePg [[0, 0, 0, 0, 4], [0, 0]] G69), (44, true, purePg [[0, 0, 4]] G44)]) Try.f60)]) rfl tyOK (ctx_eff (callable Try.func60 rfl rfl) (CallOK.inl rfl tyOK (ctx_eff (callable Try.func73 rfl rfl) (CallOK.inl rfl tyOK (ctx_cons (callable Try.func45 rfl rfl) P45 (ctx_nil)) Try.func73 (by kernel_rfl)) (ctx_cons (callable Try.func69 rfl rfl) P69 (ctx_cons (callable Try.func44 rfl rfl) P44 (ctx_nil)))) Try.func60 (by kernel_rfl)) (ctx_nil)) [[2], [0, 0, 0, 0, 4], [0]] 1 Try.func58 rfl rfl (by decide) (by kernel_rfl) ?_
  rintro ds d ⟨N, a0, r, rfl, hF, rfl⟩ hok
  clear hok
  refine ⟨rfl, ?_⟩
  show vc _ _ _ _ ⟨[(0, .dat (Layout.d a0))], []⟩ _
  unfold f58 at hF
  repeat' (first
    | ((with_reducible refine q0 _ _ ?_); clear Q q0 q1 q2)
    | ((with_reducible refine q1 _ _ _ _ ?_); clear Q q0 q1 q2)
    | ((with_reducible refine q2 _ _ _ ?_); clear Q q0 q1 q2)
    | ((with_reducible refine seq_op ?hx (fun Q q0 q1 q2 => ?_)); (case hx => exact rfl); conv => whnf)
    | ((with_reducible refine draw_op ?hx (fun Q q0 q1 q2 => ?_)); (case hx => exact rfl); conv => whnf)
    | ((with_reducible refine seq_op0 ?hx (fun Q q0 q1 q2 => ?_)); (case hx => exact rfl); conv => whnf)
    | ((with_reducible refine draw_op0 ?hx (fun Q q0 q1 q2 => ?_)); (case hx => exact rfl); conv => whnf)
    | ((with_reducible refine seq_off ?hx ?_); (case hx => exact rfl))
    | ((with_reducible refine seq_off0 ?hx ?_); (case hx => exact rfl))
    | ((with_reducible refine draw_off ?hx ?_); (case hx => exact rfl))
    | ((with_reducible refine draw_off0 ?hx ?_); (case hx => exact rfl))
    | ((with_reducible refine seq_id ?_); (first | ((refine seq_opK rfl ?hy (fun Q q0 q1 q2 => ?_)); (case hy => first | assumption | exact notT (by assumption) | exact rfl); conv => whnf) | ((refine seq_offK rfl ?hy ?_); (case hy => first | assumption | exact notF (by assumption) | exact rfl)) | ((refine seq_opK0 rfl ?hy (fun Q q0 q1 q2 => ?_)); (case hy => first | assumption | exact notT (by assumption) | exact rfl); conv => whnf) | ((refine seq_offK0 rfl ?hy ?_); (case hy => first | assumption | exact notF (by assumption) | exact rfl)) | (revert hF; (with_reducible refine seq_opF ?hx ?_ ?_); (case hx => exact rfl); (intro hc hF Q q0 q1 q2; conv => whnf); rotate_left; (intro hc hF); rotate_right) | (revert hF; (with_reducible refine seq_opN ?hx ?_ ?_); (case hx => exact rfl); (intro hc hF); rotate_left; (intro hc hF Q q0 q1 q2; conv => whnf); rotate_right) | (revert hF; (with_reducible refine seq_opF0 ?hx ?_ ?_); (case hx => exact rfl); (intro hc hF Q q0 q1 q2; conv => whnf); rotate_left; (intro hc hF); rotate_right) | (revert hF; (with_reducible refine seq_opN0 ?hx ?_ ?_); (case hx => exact rfl); (intro hc hF); rotate_left; (intro hc hF Q q0 q1 q2; conv => whnf); rotate_right)))
    | ((with_reducible refine cond_id ?_); (first | ((refine condKT rfl ?hy ?_); (case hy => first | assumption | exact notT (by assumption) | exact rfl)) | ((refine condKF rfl ?hy ?_); (case hy => first | assumption | exact notF (by assumption) | exact rfl)) | (revert hF; (with_reducible refine condF ?hx ?_ ?_); (case hx => exact rfl); all_goals (intro hc hF))))
    | ((with_reducible refine seq_nil ?_); (first | ((with_reducible refine hR _ ?_); clear R hR) | ((with_reducible refine hL _ ?_); clear L hL)))
    | ((with_reducible refine draw_nil ?_); (with_reducible refine hR _ _ ?hx ?_); (case hx => kernel_rfl); (first | clear R hR | clear hR))
    | ((with_reducible refine int_step ?_); conv => whnf)
    | ((with_reducible refine len_step ?_); conv => whnf)
    | ((with_reducible refine idx2 (by assumption) ?_); conv => whnf)
    | ((with_reducible refine idx3 (by assumption) ?_); conv => whnf)
    | with_reducible refine vc_block ?_
    | with_reducible refine vc_skip ?_
    | with_reducible refine vc_ret ?_
    | with_reducible refine vc_exit ?_
    | ((with_reducible refine vc_seqN [103000000011, 103000000007] ?hx ?_); (case hx => exact rfl))
    | (with_reducible refine vc_region (fun R hR => ?_))
    | ((with_reducible refine vc_draw ?hx (fun R hR => ?_)); (case hx => exact rfl))
    | fail
    | (revert hF; (refine Cf58_i102_c11 rfl rfl ?_ ?_); (intro hF); rotate_left; (intro b1_0 hF; unfold f58_i102_c11 at hF); rotate_right)
    | exact Zf58_i102_c11 hF ⟨_, rfl, rfl, rfl, rfl⟩ (by first | exact rfl | assumption | omega)
    | (revert hF; (refine Cf58_i102_c7 rfl rfl ?_ ?_); (intro hF); rotate_left; (intro is9 b606_0 b606_1 b1_0' hF; unfold f58_i102_c7 at hF); rotate_right)
    | exact Zf58_i102_c7 hF ⟨_, rfl, rfl, rfl, rfl⟩ (by first | exact rfl | assumption | omega) (by first | exact rfl | assumption | omega)
    | (revert hF; (refine Lf58_i102_2 rfl ⟨_, rfl, rfl, rfl, rfl⟩ (by first | exact rfl | assumption | omega) (by first | exact rfl | assumption | omega) ?_); intro n stack6 b1_0 hF; unfold f58_i102_2b at hF)
    | exact Mf58_i102_2 hF ⟨_, rfl, rfl, rfl, rfl⟩ (by first | exact rfl | assumption | omega) (by first | exact rfl | assumption | omega)
    | (revert hF; (with_reducible refine G44.step ?hx ?_); (case hx => exact rfl); intro v hF; conv => whnf)
    | (revert hF; (with_reducible refine G45.step ?hx ?_); (case hx => exact rfl); intro v hF; conv => whnf)
    | (revert hF; (with_reducible refine G69.step ?hx ?_); (case hx => exact rfl); intro v hF; conv => whnf)
    | with_reducible refine k_seq_ret ?_
    | with_reducible refine k_seq_exit ?_
    | with_reducible refine k_blk ?_
    | with_reducible refine k_blk_ret ?_
    | with_reducible refine k_blk_here ?_
    | ((with_reducible refine k_blk_out ?hx ?_); (case hx => exact rfl))
    | with_reducible refine k_loop_ret ?_
    | with_reducible refine k_loop_exit ?_
    | (revert hF; (with_reducible refine idx1 ?hn ?_); (case hn => first | exact rfl | exact (List.length_map _) | assumption | omega | simp); intro x hx hF; conv => whnf)
    | ((with_reducible have hG := sub_fact hF); clear hF; (first | (refine sub_step hG (fun q hF => ?_)) | (refine subrow_step hG ?hn (fun q hF => ?_); (case hn => first | exact rfl | assumption | omega))); clear hG; conv => whnf)
    | ((with_reducible have hG := app_fact hF); clear hF; (first | ((refine app_row hG ?hn ?hs (fun q hF => ?_)); (case hn => first | exact rfl | assumption | omega); (case hs => exact rfl)) | ((refine app_nil (d := Cut.d) hG ?hs (fun q hF => ?_)); (case hs => exact rfl)) | ((refine app_gen (d := Cut.d) hG ?ho ?hn ?hs (fun q hF => ?_)); (case ho => exact rfl); (case hn => exact rfl); (case hs => exact rfl))| ((refine app_nil (d := Piece.d) hG ?hs (fun q hF => ?_)); (case hs => exact rfl)) | ((refine app_gen (d := Piece.d) hG ?ho ?hn ?hs (fun q hF => ?_)); (case ho => exact rfl); (case hn => exact rfl); (case hs => exact rfl))); clear hG; conv => whnf)
    | ((refine row_all ?hn ?_); (case hn => first | exact rfl | (simp; done) | (simp; omega)); conv => whnf)
    | ((with_reducible refine le_step ?hn ?_); (case hn => first | exact rfl | assumption | omega); conv => whnf)
    | ((refine ⟨?hx, ?_⟩); (case hx => exact ⟨rfl, Nat.le_of_ble_eq_true rfl, rfl⟩); conv => whnf)
    | ((with_reducible refine ex_step ?_); conv => whnf)
    | ((with_reducible refine both_T ?hx ?_); (case hx => first | exact rfl | assumption | exact notT (by assumption)); conv => whnf)
    | ((with_reducible refine both_F ?hx ?_); (case hx => first | exact rfl | assumption | exact notF (by assumption)); conv => whnf)
    | (revert hF; (with_reducible refine ite_step ?_ ?_) <;> (intro hc hF; conv => whnf))
    | ((with_reducible refine vc_condT ?hx ?_); (case hx => exact rfl))
    | ((with_reducible refine vc_condF ?hx ?_); (case hx => exact rfl))
    | (show retD _ _ _ _ _ _; conv => whnf)
    | ((refine inl_step ?ha ?hb ?hc rfl ?_); (case ha => exact rfl); (case hb => omega); (case hc => exact Nat.le_of_ble_eq_true rfl))
    | (show Kinl _ _ _ _ _ _ _; conv => whnf)
    | ((with_reducible refine kinl_step ?ha ?hb ?_); (case ha => exact rfl); (case hb => exact rfl); conv => whnf)
    | ((refine ⟨?hx, trivial⟩); (case hx => (cases hF; exact rfl)))
    | ((refine ⟨?hx, ?_⟩); (case hx => decide); conv => whnf)
    | ((with_reducible refine k_seq ?_))
    | (have hF : (none : Option _) = some _ := hF; cases hF))
end
end Go.Vc
namespace Go.Vc
open Go.Proofs
set_option linter.unusedVariables false
set_option linter.unnecessarySimpa false
set_option linter.unusedSimpArgs false
section
variable {c : Ctx} {p nid : Nat} {a b : Code} {st : St} {K : Ex → St → Prop}
/- f22: tusche/cut.Plan -/
def f22 (N : Nat) (a0 : Layout) : Option ((List Cut) × Int) :=
 (f20 N a0).bind fun x1 =>
 bif decide (¬ x1 = (0 : Int)) then (some ([], x1))
 else ((f58 N a0).bind fun x2 =>
 bif !x2.2.2 then (some ([], (14 : Int)))
 else (some (x2.1, (0 : Int))))
def G22 (ds : List D) (d : D) : Prop := ∃ (N : Nat) (a0 : Layout) (r : (List Cut) × Int), ds = [Layout.d a0] ∧ f22 N a0 = some r ∧ d = .tup [sl_Cut r.1, iN r.2]
theorem G22.step {N : Nat} {a0 : Layout} {ρ : Type} {A : ((List Cut) × Int) → Option ρ} {q : ρ} {ds : List D} {K : D → Prop} (hd : ds = [Layout.d a0]) (h : ∀ r, A r = some q → K (.tup [sl_Cut r.1, iN r.2])) (hF : (f22 N a0).bind A = some q) : ∃ d, G22 ds d ∧ K d := by
  obtain ⟨r, hr, hA⟩ := bind_some hF
  exact ⟨_, ⟨N, a0, r, hd, hr, rfl⟩, h r hA⟩
set_option maxRecDepth 20000 in
set_option maxHeartbeats 4000000 in
theorem P22 : PureOK Try.prog 22 G22 := by
  refine pure_of_vc (c := mkCtx tyTree [(58, true, purePg [[0, 0, 4]] G58), (20, true, purePg [[0, 0, 4]] G20)]) rfl tyOK (ctx_cons (callable Try.func58 rfl rfl) P58 (ctx_cons (callable Try.func20 rfl rfl) P20 (ctx_nil))) [[2], [0]] 1 Try.func22 rfl rfl (by decide) (by kernel_rfl) ?_
  rintro ds d ⟨N, a0, r, rfl, hF, rfl⟩ hok
  clear hok
  refine ⟨rfl, ?_⟩
  show vc _ _ _ _ ⟨[(0, .dat (Layout.d a0))], []⟩ _
  unfold f22 at hF
  repeat' (first
    | ((with_reducible refine q0 _ _ ?_); clear Q q0 q1 q2)
    | ((with_reducible refine q1 _ _ _ _ ?_); clear Q q0 q1 q2)
    | ((with_reducible refine q2 _ _ _ ?_); clear Q q0 q1 q2)
    | ((with_reducible refine seq_op ?hx (fun Q q0 q1 q2 => ?_)); (case hx => exact rfl); conv => whnf)
    | ((with_reducible refine seq_op0 ?hx (fun Q q0 q1 q2 => ?_)); (case hx => exact rfl); conv => whnf)
    | ((with_reducible refine cond_id ?_); (first | ((refine condKT rfl ?hy ?_); (case hy => first | assumption | exact notT (by assumption) | exact rfl)) | ((refine condKF rfl ?hy ?_); (case hy => first | assumption | exact notF (by assumption) | exact rfl)) | (revert hF; (with_reducible refine condF ?hx ?_ ?_); (case hx => exact rfl); all_goals (intro hc hF))))
    | ((with_reducible refine seq_nil ?_); (first | ((with_reducible refine hR _ ?_); clear R hR) | ((with_reducible refine hL _ ?_); clear L hL)))
    | ((with_reducible refine int_step ?_); conv => whnf)
    | with_reducible refine vc_block ?_
    | with_reducible refine vc_skip ?_
    | with_reducible refine vc_ret ?_
    | with_reducible refine vc_exit ?_
    | ((with_reducible refine vc_seqN [] ?hx ?_); (case hx => exact rfl))
    | (with_reducible refine vc_region (fun R hR => ?_))
    | fail
    | (revert hF; (with_reducible refine G20.step ?hx ?_); (case hx => exact rfl); intro v hF; conv => whnf)
    | (revert hF; (with_reducible refine G58.step ?hx ?_); (case hx => exact rfl); intro v hF; conv => whnf)
    | with_reducible refine k_seq_ret ?_
    | with_reducible refine k_seq_exit ?_
    | with_reducible refine k_blk ?_
    | with_reducible refine k_blk_ret ?_
    | with_reducible refine k_blk_here ?_
    | ((with_reducible refine k_blk_out ?hx ?_); (case hx => exact rfl))
    | ((refine row_all ?hn ?_); (case hn => first | exact rfl | (simp; done) | (simp; omega)); conv => whnf)
    | ((with_reducible refine le_step ?hn ?_); (case hn => first | exact rfl | assumption | omega); conv => whnf)
    | ((refine ⟨?hx, ?_⟩); (case hx => exact ⟨rfl, Nat.le_of_ble_eq_true rfl, rfl⟩); conv => whnf)
    | ((with_reducible refine ex_step ?_); conv => whnf)
    | ((with_reducible refine both_T ?hx ?_); (case hx => first | exact rfl | assumption | exact notT (by assumption)); conv => whnf)
    | ((with_reducible refine both_F ?hx ?_); (case hx => first | exact rfl | assumption | exact notF (by assumption)); conv => whnf)
    | (revert hF; (with_reducible refine ite_step ?_ ?_) <;> (intro hc hF; conv => whnf))
    | ((with_reducible refine vc_condT ?hx ?_); (case hx => exact rfl))
    | ((with_reducible refine vc_condF ?hx ?_); (case hx => exact rfl))
    | (show retD _ _ _ _ _ _; conv => whnf)
    | ((refine ⟨?hx, trivial⟩); (case hx => (cases hF; exact rfl)))
    | ((refine ⟨?hx, ?_⟩); (case hx => decide); conv => whnf)
    | ((with_reducible refine k_seq ?_))
    | (have hF : (none : Option _) = some _ := hF; cases hF))
end
end Go.Vc
namespace Go.Vc
open Go.Proofs
set_option linter.unusedVariables false
set_option linter.unnecessarySimpa false
set_option linter.unusedSimpArgs false
section
variable {c : Ctx} {p nid : Nat} {a b : Code} {st : St} {K : Ex → St → Prop}
/- f24: tusche/cut.Blocked -/
def f24 (N : Nat) (a0 : Layout) : Option (Label × Int) :=
 (f20 N a0).bind fun x1 =>
 bif decide (¬ x1 = (0 : Int)) then (some ((Label.mk (0 : Int) (0 : Int) (0 : Int) (0 : Int)), x1))
 else ((f58 N a0).bind fun x2 =>
 bif x2.2.2 then (some ((Label.mk (0 : Int) (0 : Int) (0 : Int) (0 : Int)), (14 : Int)))
 else (some (x2.2.1.Label_, (0 : Int))))
def G24 (ds : List D) (d : D) : Prop := ∃ (N : Nat) (a0 : Layout) (r : Label × Int), ds = [Layout.d a0] ∧ f24 N a0 = some r ∧ d = .tup [Label.d r.1, iN r.2]
theorem G24.step {N : Nat} {a0 : Layout} {ρ : Type} {A : (Label × Int) → Option ρ} {q : ρ} {ds : List D} {K : D → Prop} (hd : ds = [Layout.d a0]) (h : ∀ r, A r = some q → K (.tup [Label.d r.1, iN r.2])) (hF : (f24 N a0).bind A = some q) : ∃ d, G24 ds d ∧ K d := by
  obtain ⟨r, hr, hA⟩ := bind_some hF
  exact ⟨_, ⟨N, a0, r, hd, hr, rfl⟩, h r hA⟩
set_option maxRecDepth 20000 in
set_option maxHeartbeats 4000000 in
theorem P24 : PureOK Try.prog 24 G24 := by
  refine pure_of_vc (c := mkCtx tyTree [(58, true, purePg [[0, 0, 4]] G58), (20, true, purePg [[0, 0, 4]] G20)]) rfl tyOK (ctx_cons (callable Try.func58 rfl rfl) P58 (ctx_cons (callable Try.func20 rfl rfl) P20 (ctx_nil))) [[0, 0, 0, 0], [0]] 1 Try.func24 rfl rfl (by decide) (by kernel_rfl) ?_
  rintro ds d ⟨N, a0, r, rfl, hF, rfl⟩ hok
  clear hok
  refine ⟨rfl, ?_⟩
  show vc _ _ _ _ ⟨[(0, .dat (Layout.d a0))], []⟩ _
  unfold f24 at hF
  repeat' (first
    | ((with_reducible refine q0 _ _ ?_); clear Q q0 q1 q2)
    | ((with_reducible refine q1 _ _ _ _ ?_); clear Q q0 q1 q2)
    | ((with_reducible refine q2 _ _ _ ?_); clear Q q0 q1 q2)
    | ((with_reducible refine seq_op ?hx (fun Q q0 q1 q2 => ?_)); (case hx => exact rfl); conv => whnf)
    | ((with_reducible refine seq_op0 ?hx (fun Q q0 q1 q2 => ?_)); (case hx => exact rfl); conv => whnf)
    | ((with_reducible refine cond_id ?_); (first | ((refine condKT rfl ?hy ?_); (case hy => first | assumption | exact notT (by assumption) | exact rfl)) | ((refine condKF rfl ?hy ?_); (case hy => first | assumption | exact notF (by assumption) | exact rfl)) | (revert hF; (with_reducible refine condF ?hx ?_ ?_); (case hx => exact rfl); all_goals (intro hc hF))))
    | ((with_reducible refine seq_nil ?_); (first | ((with_reducible refine hR _ ?_); clear R hR) | ((with_reducible refine hL _ ?_); clear L hL)))
    | ((with_reducible refine int_step ?_); conv => whnf)
    | with_reducible refine vc_block ?_
    | with_reducible refine vc_skip ?_
    | with_reducible refine vc_ret ?_
    | with_reducible refine vc_exit ?_
    | ((with_reducible refine vc_seqN [] ?hx ?_); (case hx => exact rfl))
    | (with_reducible refine vc_region (fun R hR => ?_))
    | fail
    | (revert hF; (with_reducible refine G20.step ?hx ?_); (case hx => exact rfl); intro v hF; conv => whnf)
    | (revert hF; (with_reducible refine G58.step ?hx ?_); (case hx => exact rfl); intro v hF; conv => whnf)
    | with_reducible refine k_seq_ret ?_
    | with_reducible refine k_seq_exit ?_
    | with_reducible refine k_blk ?_
    | with_reducible refine k_blk_ret ?_
    | with_reducible refine k_blk_here ?_
    | ((with_reducible refine k_blk_out ?hx ?_); (case hx => exact rfl))
    | ((refine row_all ?hn ?_); (case hn => first | exact rfl | (simp; done) | (simp; omega)); conv => whnf)
    | ((with_reducible refine le_step ?hn ?_); (case hn => first | exact rfl | assumption | omega); conv => whnf)
    | ((refine ⟨?hx, ?_⟩); (case hx => exact ⟨rfl, Nat.le_of_ble_eq_true rfl, rfl⟩); conv => whnf)
    | ((with_reducible refine ex_step ?_); conv => whnf)
    | ((with_reducible refine both_T ?hx ?_); (case hx => first | exact rfl | assumption | exact notT (by assumption)); conv => whnf)
    | ((with_reducible refine both_F ?hx ?_); (case hx => first | exact rfl | assumption | exact notF (by assumption)); conv => whnf)
    | (revert hF; (with_reducible refine ite_step ?_ ?_) <;> (intro hc hF; conv => whnf))
    | ((with_reducible refine vc_condT ?hx ?_); (case hx => exact rfl))
    | ((with_reducible refine vc_condF ?hx ?_); (case hx => exact rfl))
    | (show retD _ _ _ _ _ _; conv => whnf)
    | ((refine ⟨?hx, trivial⟩); (case hx => (cases hF; exact rfl)))
    | ((refine ⟨?hx, ?_⟩); (case hx => decide); conv => whnf)
    | ((with_reducible refine k_seq ?_))
    | (have hF : (none : Option _) = some _ := hF; cases hF))
end
end Go.Vc
namespace Go.Vc
open Go.Proofs
set_option linter.unusedVariables false
set_option linter.unnecessarySimpa false
set_option linter.unusedSimpArgs false
section
variable {c : Ctx} {p nid : Nat} {a b : Code} {st : St} {K : Ex → St → Prop}
/- f25: tusche/cut.Verify -/
def f25_c6 (a1 : List Cut) (is9 : Bool) (b400_0 : Int) (b401_0 : Bool) : Option (Int) :=
 bif b401_0 then (some ((22 : Int)))
 else (bif !is9 then (some ((13 : Int)))
 else (bif decide (b400_0 < (List.length a1 : Int)) then (some ((21 : Int)))
 else (some ((0 : Int)))))
def Sf25_c6 : Ann := ⟨[3, 6, 7, 9], [1, 400, 401], [], []⟩
def Vf25_c6 (a1 : List Cut) (is9 : Bool) (b400_0 : Int) (b401_0 : Bool) : List SV := [.ptr 1 0, .ptr 400 0, .ptr 401 0, .kb is9]
def Bf25_c6 (a1 : List Cut) (is9 : Bool) (b400_0 : Int) (b401_0 : Bool) : List Blk := [.box [.dat (sl_Cut a1)], .box [.dat (iN b400_0)], .box [.kb b401_0]]
def Yf25_c6 (a1 : List Cut) (y : Bool × Int × Bool) : List SV := Vf25_c6 a1 y.1 y.2.1 y.2.2
def Xf25_c6 (a1 : List Cut) (y : Bool × Int × Bool) : List Blk := Bf25_c6 a1 y.1 y.2.1 y.2.2
def Jf25_c6 (a1 : List Cut) (r : Int) (y : Bool × Int × Bool) : Prop := f25_c6 a1 y.1 y.2.1 y.2.2 = some r
theorem Cf25_c6 {r : Int} {a1 : List Cut} {g : _ → Option (Int)} (hn : Nat.beq (nid * 1000 + firstRegion b) 6 = true) (hz : Sf25_c6.ok p = true) (h : g (f25_c6 a1) = some r → vc c p nid a st (KHead Sf25_c6 (Yf25_c6 a1) (Xf25_c6 a1) (Jf25_c6 a1 r) K)) (h2 : ∀ (is9 : Bool) (b400_0 : Int) (b401_0 : Bool), f25_c6 a1 is9 b400_0 b401_0 = some r → vc c p nid b (St.mk' Sf25_c6 (Vf25_c6 a1 is9 b400_0 b401_0) (Bf25_c6 a1 is9 b400_0 b401_0)) K) (hF : joinK (f25_c6 a1) g = some r) : vc c p nid (.seq a b) st K :=
  vc_cut Sf25_c6 (Yf25_c6 a1) (Xf25_c6 a1) (Jf25_c6 a1 r) hz (h hF) fun y hy => h2 y.1 y.2.1 y.2.2 hy
theorem Zf25_c6 {r : Int} {a1 : List Cut} {is9 : Bool} {b400_0 : Int} {b401_0 : Bool} (hF : f25_c6 a1 is9 b400_0 b401_0 = some r) (h0 : AtH Sf25_c6 st (Vf25_c6 a1 is9 b400_0 b401_0) (Bf25_c6 a1 is9 b400_0 b401_0)) : KHead Sf25_c6 (Yf25_c6 a1) (Xf25_c6 a1) (Jf25_c6 a1 r) K .normal st := by
  exact khead (I := (Jf25_c6 a1 r)) (x := (is9, b400_0, b401_0)) hF h0
def f25_i502_c11 (a0 : Layout) (a1 : List Cut) (k0 : Bool → Int → Bool → Option (Int)) (b400_0 : Int) (b401_0 : Bool) : Option (Int) :=
 k0 true b400_0 b401_0
def Sf25_i502_c11 : Ann := ⟨[4], [0, 1, 400, 401, 503000001], [], []⟩
def Vf25_i502_c11 (a0 : Layout) (a1 : List Cut) (b400_0 : Int) (b401_0 : Bool) : List SV := [.ptr 503000001 0]
def Bf25_i502_c11 (a0 : Layout) (a1 : List Cut) (b400_0 : Int) (b401_0 : Bool) : List Blk := [.box [.dat (iN a0.W), .dat (iN a0.H), .dat (sl_Label a0.Labels)], .box [.dat (sl_Cut a1)], .box [.dat (iN b400_0)], .box [.kb b401_0], .box [.dat (iN (0 : Int)), .dat (iN (0 : Int)), .dat (iN (0 : Int)), .dat (iN (0 : Int)), .nil]]
def Yf25_i502_c11 (a0 : Layout) (a1 : List Cut) (y : Int × Bool) : List SV := Vf25_i502_c11 a0 a1 y.1 y.2
def Xf25_i502_c11 (a0 : Layout) (a1 : List Cut) (y : Int × Bool) : List Blk := Bf25_i502_c11 a0 a1 y.1 y.2
def Jf25_i502_c11 (a0 : Layout) (a1 : List Cut) (k0 : Bool → Int → Bool → Option (Int)) (r : Int) (y : Int × Bool) : Prop := f25_i502_c11 a0 a1 k0 y.1 y.2 = some r
theorem Cf25_i502_c11 {r : Int} {a0 : Layout} {a1 : List Cut} {k0 : Bool → Int → Bool → Option (Int)} {g : _ → Option (Int)} (hn : Nat.beq (nid * 1000 + firstRegion b) 503000000011 = true) (hz : Sf25_i502_c11.ok p = true) (h : g (f25_i502_c11 a0 a1 k0) = some r → vc c p nid a st (KHead Sf25_i502_c11 (Yf25_i502_c11 a0 a1) (Xf25_i502_c11 a0 a1) (Jf25_i502_c11 a0 a1 k0 r) K)) (h2 : ∀ (b400_0 : Int) (b401_0 : Bool), f25_i502_c11 a0 a1 k0 b400_0 b401_0 = some r → vc c p nid b (St.mk' Sf25_i502_c11 (Vf25_i502_c11 a0 a1 b400_0 b401_0) (Bf25_i502_c11 a0 a1 b400_0 b401_0)) K) (hF : joinK (f25_i502_c11 a0 a1 k0) g = some r) : vc c p nid (.seq a b) st K :=
  vc_cut Sf25_i502_c11 (Yf25_i502_c11 a0 a1) (Xf25_i502_c11 a0 a1) (Jf25_i502_c11 a0 a1 k0 r) hz (h hF) fun y hy => h2 y.1 y.2 hy
theorem Zf25_i502_c11 {r : Int} {a0 : Layout} {a1 : List Cut} {k0 : Bool → Int → Bool → Option (Int)} {b400_0 : Int} {b401_0 : Bool} (hF : f25_i502_c11 a0 a1 k0 b400_0 b401_0 = some r) (h0 : AtH Sf25_i502_c11 st (Vf25_i502_c11 a0 a1 b400_0 b401_0) (Bf25_i502_c11 a0 a1 b400_0 b401_0)) : KHead Sf25_i502_c11 (Yf25_i502_c11 a0 a1) (Xf25_i502_c11 a0 a1) (Jf25_i502_c11 a0 a1 k0 r) K .normal st := by
  exact khead (I := (Jf25_i502_c11 a0 a1 k0 r)) (x := (b400_0, b401_0)) hF h0
def f25_i502_c7 (a0 : Layout) (a1 : List Cut) (N : Nat) (k0 : Bool → Int → Bool → Option (Int)) (r2 : (List Piece) → Int → Bool → Option (Int)) (x3 : Piece) (x4 : List Piece) (is9 : Bool) (b606_0 : Bool) (b606_1 : Int) (b400_0' : Int) (b401_0' : Bool) : Option (Int) :=
 (f69 N x3 (Cut.mk b606_0 b606_1)).bind fun x5 =>
 bif !is9 then (k0 false (b400_0') (b401_0'))
 else (bif !x5.2.2 then (k0 false (b400_0') (b401_0'))
 else ((app 56 x4 [x5.2.1, x5.1]).bind fun x6 =>
 r2 x6 (b400_0') (b401_0')))
def Sf25_i502_c7 : Ann := ⟨[1, 4, 6, 7, 8, 9], [0, 1, 400, 401, 503000001, 503000306, 503000606, 503090006], [], []⟩
def Vf25_i502_c7 (a0 : Layout) (a1 : List Cut) (x3 : Piece) (x4 : List Piece) (is9 : Bool) (b606_0 : Bool) (b606_1 : Int) (b400_0' : Int) (b401_0' : Bool) : List SV := [.fn 61 [] [.ptr 400 0, .ptr 1 0, .ptr 401 0], .ptr 503000001 0, .rs 503090006 (List.length x4), .ptr 503000306 0, .ptr 503000606 0, .kb is9]
def Bf25_i502_c7 (a0 : Layout) (a1 : List Cut) (x3 : Piece) (x4 : List Piece) (is9 : Bool) (b606_0 : Bool) (b606_1 : Int) (b400_0' : Int) (b401_0' : Bool) : List Blk := [.box [.dat (iN a0.W), .dat (iN a0.H), .dat (sl_Label a0.Labels)], .box [.dat (sl_Cut a1)], .box [.dat (iN (b400_0'))], .box [.kb (b401_0')], .box [.dat (iN (0 : Int)), .dat (iN (0 : Int)), .dat (iN (0 : Int)), .dat (iN (0 : Int)), .nil], .box [.dat (iN x3.Label_.X), .dat (iN x3.Label_.Y), .dat (iN x3.Label_.W), .dat (iN x3.Label_.H), .dat (sl_Label x3.labels)], .box [.kb b606_0, .dat (iN b606_1)], .row 96 5 (List.map Piece.d x4)]
def Yf25_i502_c7 (a0 : Layout) (a1 : List Cut) (x3 : Piece) (x4 : List Piece) (y : Bool × Bool × Int × Int × Bool) : List SV := Vf25_i502_c7 a0 a1 x3 x4 y.1 y.2.1 y.2.2.1 y.2.2.2.1 y.2.2.2.2
def Xf25_i502_c7 (a0 : Layout) (a1 : List Cut) (x3 : Piece) (x4 : List Piece) (y : Bool × Bool × Int × Int × Bool) : List Blk := Bf25_i502_c7 a0 a1 x3 x4 y.1 y.2.1 y.2.2.1 y.2.2.2.1 y.2.2.2.2
def Jf25_i502_c7 (a0 : Layout) (a1 : List Cut) (N : Nat) (k0 : Bool → Int → Bool → Option (Int)) (r2 : (List Piece) → Int → Bool → Option (Int)) (x3 : Piece) (x4 : List Piece) (r : Int) (y : Bool × Bool × Int × Int × Bool) : Prop := f25_i502_c7 a0 a1 N k0 r2 x3 x4 y.1 y.2.1 y.2.2.1 y.2.2.2.1 y.2.2.2.2 = some r
def V2f25_i502_c7 (a0 : Layout) (a1 : List Cut) (x3 : Piece) (x4 : List Piece) (is9 : Bool) (b606_0 : Bool) (b606_1 : Int) (b400_0' : Int) (b401_0' : Bool) (m0 : Nat) : List SV := [.fn 61 [] [.ptr 400 0, .ptr 1 0, .ptr 401 0], .ptr 503000001 0, .rs 503090006 m0, .ptr 503000306 0, .ptr 503000606 0, .kb is9]
def B2f25_i502_c7 (a0 : Layout) (a1 : List Cut) (x3 : Piece) (x4 : List Piece) (is9 : Bool) (b606_0 : Bool) (b606_1 : Int) (b400_0' : Int) (b401_0' : Bool) (m0 : Nat) : List Blk := [.box [.dat (iN a0.W), .dat (iN a0.H), .dat (sl_Label a0.Labels)], .box [.dat (sl_Cut a1)], .box [.dat (iN (b400_0'))], .box [.kb (b401_0')], .box [.dat (iN (0 : Int)), .dat (iN (0 : Int)), .dat (iN (0 : Int)), .dat (iN (0 : Int)), .nil], .box [.dat (iN x3.Label_.X), .dat (iN x3.Label_.Y), .dat (iN x3.Label_.W), .dat (iN x3.Label_.H), .dat (sl_Label x3.labels)], .box [.kb b606_0, .dat (iN b606_1)], .row 96 5 (List.map Piece.d x4)]
theorem Cf25_i502_c7 {r : Int} {a0 : Layout} {a1 : List Cut} {N : Nat} {k0 : Bool → Int → Bool → Option (Int)} {r2 : (List Piece) → Int → Bool → Option (Int)} {x3 : Piece} {x4 : List Piece} {g : _ → Option (Int)} (hn : Nat.beq (nid * 1000 + firstRegion b) 503000000007 = true) (hz : Sf25_i502_c7.ok p = true) (h : g (f25_i502_c7 a0 a1 N k0 r2 x3 x4) = some r → vc c p nid a st (KHead Sf25_i502_c7 (Yf25_i502_c7 a0 a1 x3 x4) (Xf25_i502_c7 a0 a1 x3 x4) (Jf25_i502_c7 a0 a1 N k0 r2 x3 x4 r) K)) (h2 : ∀ (is9 : Bool) (b606_0 : Bool) (b606_1 : Int) (b400_0' : Int) (b401_0' : Bool), f25_i502_c7 a0 a1 N k0 r2 x3 x4 is9 b606_0 b606_1 b400_0' b401_0' = some r → vc c p nid b (St.mk' Sf25_i502_c7 (Vf25_i502_c7 a0 a1 x3 x4 is9 b606_0 b606_1 b400_0' b401_0') (Bf25_i502_c7 a0 a1 x3 x4 is9 b606_0 b606_1 b400_0' b401_0')) K) (hF : joinK (f25_i502_c7 a0 a1 N k0 r2 x3 x4) g = some r) : vc c p nid (.seq a b) st K :=
  vc_cut Sf25_i502_c7 (Yf25_i502_c7 a0 a1 x3 x4) (Xf25_i502_c7 a0 a1 x3 x4) (Jf25_i502_c7 a0 a1 N k0 r2 x3 x4 r) hz (h hF) fun y hy => h2 y.1 y.2.1 y.2.2.1 y.2.2.2.1 y.2.2.2.2 hy
theorem Zf25_i502_c7 {r : Int} {a0 : Layout} {a1 : List Cut} {N : Nat} {k0 : Bool → Int → Bool → Option (Int)} {r2 : (List Piece) → Int → Bool → Option (Int)} {x3 : Piece} {x4 : List Piece} {is9 : Bool} {b606_0 : Bool} {b606_1 : Int} {b400_0' : Int} {b401_0' : Bool} {m0 : Nat} (hF : f25_i502_c7 a0 a1 N k0 r2 x3 x4 is9 b606_0 b606_1 b400_0' b401_0' = some r) (h0 : AtH Sf25_i502_c7 st (V2f25_i502_c7 a0 a1 x3 x4 is9 b606_0 b606_1 b400_0' b401_0' m0) (B2f25_i502_c7 a0 a1 x3 x4 is9 b606_0 b606_1 b400_0' b401_0' m0)) (em0 : m0 = List.length x4) : KHead Sf25_i502_c7 (Yf25_i502_c7 a0 a1 x3 x4) (Xf25_i502_c7 a0 a1 x3 x4) (Jf25_i502_c7 a0 a1 N k0 r2 x3 x4 r) K .normal st := by
  subst em0; exact khead (I := (Jf25_i502_c7 a0 a1 N k0 r2 x3 x4 r)) (x := (is9, b606_0, b606_1, b400_0', b401_0')) hF h0
def f25_i502_2b (r2 : (List Piece) → Int → Bool → Option (Int)) (a0 : Layout) (a1 : List Cut) (N : Nat) (k0 : Bool → Int → Bool → Option (Int)) (k1 : Int → Bool → Option (Int)) (stack6 : List Piece) (b400_0 : Int) (b401_0 : Bool) : Option (Int) :=
 bif decide ((0 : Int) < (List.length stack6 : Int)) then ((ix stack6 (W ((List.length stack6 : Int) - (1 : Int)))).bind fun x3 =>
 (sub stack6 0 (W ((List.length stack6 : Int) - (1 : Int)))).bind fun x4 =>
 bif decide ((List.length x3.labels : Int) < (2 : Int)) then (r2 x4 b400_0 b401_0)
 else (joinK (f25_i502_c7 a0 a1 N k0 r2 x3 x4) fun k2 =>
 bif decide (b400_0 = (List.length a1 : Int)) then (k2 false false (0 : Int) b400_0 true)
 else ((ix a1 (W ((W (b400_0 + (1 : Int))) - (1 : Int)))).bind fun x7 =>
 k2 true x7.Up x7.At (W (b400_0 + (1 : Int))) b401_0)))
 else (k1 b400_0 b401_0)
def f25_i502_2 (a0 : Layout) (a1 : List Cut) (N : Nat) (k0 : Bool → Int → Bool → Option (Int)) (k1 : Int → Bool → Option (Int)) : Nat → (List Piece) → Int → Bool → Option (Int)
  | 0, _, _, _ => none
  | n + 1, stack6, b400_0, b401_0 => f25_i502_2b (f25_i502_2 a0 a1 N k0 k1 n) a0 a1 N k0 k1 stack6 b400_0 b401_0
def Sf25_i502_2 : Ann := ⟨[1, 4, 6], [0, 1, 400, 401, 503000001, 503090006], [(.slot 6, 503090006, 96, 5)], []⟩
def Vf25_i502_2 (a0 : Layout) (a1 : List Cut) (stack6 : List Piece) (b400_0 : Int) (b401_0 : Bool) : List SV := [.fn 61 [] [.ptr 400 0, .ptr 1 0, .ptr 401 0], .ptr 503000001 0, .rs 503090006 (List.length stack6)]
def Bf25_i502_2 (a0 : Layout) (a1 : List Cut) (stack6 : List Piece) (b400_0 : Int) (b401_0 : Bool) : List Blk := [.box [.dat (iN a0.W), .dat (iN a0.H), .dat (sl_Label a0.Labels)], .box [.dat (sl_Cut a1)], .box [.dat (iN b400_0)], .box [.kb b401_0], .box [.dat (iN (0 : Int)), .dat (iN (0 : Int)), .dat (iN (0 : Int)), .dat (iN (0 : Int)), .nil], .row 96 5 (List.map Piece.d stack6)]
def Yf25_i502_2 (a0 : Layout) (a1 : List Cut) (y : Nat × (List Piece) × Int × Bool) : List SV := Vf25_i502_2 a0 a1 y.2.1 y.2.2.1 y.2.2.2
def Xf25_i502_2 (a0 : Layout) (a1 : List Cut) (y : Nat × (List Piece) × Int × Bool) : List Blk := Bf25_i502_2 a0 a1 y.2.1 y.2.2.1 y.2.2.2
def Jf25_i502_2 (a0 : Layout) (a1 : List Cut) (N : Nat) (k0 : Bool → Int → Bool → Option (Int)) (k1 : Int → Bool → Option (Int)) (r : Int) (y : Nat × (List Piece) × Int × Bool) : Prop := f25_i502_2 a0 a1 N k0 k1 y.1 y.2.1 y.2.2.1 y.2.2.2 = some r
def V2f25_i502_2 (a0 : Layout) (a1 : List Cut) (stack6 : List Piece) (b400_0 : Int) (b401_0 : Bool) (m0 : Nat) : List SV := [.fn 61 [] [.ptr 400 0, .ptr 1 0, .ptr 401 0], .ptr 503000001 0, .rs 503090006 m0]
def B2f25_i502_2 (a0 : Layout) (a1 : List Cut) (stack6 : List Piece) (b400_0 : Int) (b401_0 : Bool) (m0 : Nat) : List Blk := [.box [.dat (iN a0.W), .dat (iN a0.H), .dat (sl_Label a0.Labels)], .box [.dat (sl_Cut a1)], .box [.dat (iN b400_0)], .box [.kb b401_0], .box [.dat (iN (0 : Int)), .dat (iN (0 : Int)), .dat (iN (0 : Int)), .dat (iN (0 : Int)), .nil], .row 96 5 (List.map Piece.d stack6)]
theorem Lf25_i502_2 {r : Int} {a0 : Layout} {a1 : List Cut} {N : Nat} {k0 : Bool → Int → Bool → Option (Int)} {k1 : Int → Bool → Option (Int)} {fu : Nat} {stack6 : List Piece} {b400_0 : Int} {b401_0 : Bool} {m0 : Nat} (hz : Sf25_i502_2.ok p = true) (h0 : AtH Sf25_i502_2 st (V2f25_i502_2 a0 a1 stack6 b400_0 b401_0 m0) (B2f25_i502_2 a0 a1 stack6 b400_0 b401_0 m0)) (em0 : m0 = List.length stack6) (h : ∀ (n : Nat) (stack6 : List Piece) (b400_0 : Int) (b401_0 : Bool), f25_i502_2b (f25_i502_2 a0 a1 N k0 k1 n) a0 a1 N k0 k1 stack6 b400_0 b401_0 = some r → vc c p nid a (St.mk' Sf25_i502_2 (Vf25_i502_2 a0 a1 stack6 b400_0 b401_0) (Bf25_i502_2 a0 a1 stack6 b400_0 b401_0)) (Kloop Sf25_i502_2 (Yf25_i502_2 a0 a1) (Xf25_i502_2 a0 a1) (Jf25_i502_2 a0 a1 N k0 k1 r) Prod.fst (n + 1, stack6, b400_0, b401_0) K)) (hF : f25_i502_2 a0 a1 N k0 k1 fu stack6 b400_0 b401_0 = some r) : vc c p nid (.loop a) st K := by
  subst em0; refine vc_loop Sf25_i502_2 (Yf25_i502_2 a0 a1) (Xf25_i502_2 a0 a1) (Jf25_i502_2 a0 a1 N k0 k1 r) Prod.fst hz (kheadL (x := (fu, stack6, b400_0, b401_0)) hF h0) ?_
  rintro ⟨_ | n, stack6, b400_0, b401_0⟩ hI
  · cases hI
  · exact h n stack6 b400_0 b401_0 hI
theorem Mf25_i502_2 {r : Int} {a0 : Layout} {a1 : List Cut} {N : Nat} {k0 : Bool → Int → Bool → Option (Int)} {k1 : Int → Bool → Option (Int)} {n : Nat} {stack6 : List Piece} {b400_0 : Int} {b401_0 : Bool} {stack6_ : List Piece} {b400_0_ : Int} {b401_0_ : Bool} {m0 : Nat} (hF : f25_i502_2 a0 a1 N k0 k1 n stack6 b400_0 b401_0 = some r) (h0 : AtH Sf25_i502_2 st (V2f25_i502_2 a0 a1 stack6 b400_0 b401_0 m0) (B2f25_i502_2 a0 a1 stack6 b400_0 b401_0 m0)) (em0 : m0 = List.length stack6) : Kloop Sf25_i502_2 (Yf25_i502_2 a0 a1) (Xf25_i502_2 a0 a1) (Jf25_i502_2 a0 a1 N k0 k1 r) Prod.fst (n + 1, stack6_, b400_0_, b401_0_) K .normal st := by
  subst em0; exact kback (y := (n, stack6, b400_0, b401_0)) hF (Nat.lt_succ_self n) h0
def f25 (N : Nat) (a0 : Layout) (a1 : List Cut) : Option (Int) :=
 (f20 N a0).bind fun x1 =>
 bif decide (¬ x1 = (0 : Int)) then (some (x1))
 else (joinK (f25_c6 a1) fun k0 =>
 (f44 N a0).bind fun x2 =>
 joinK (f25_i502_c11 a0 a1 k0) fun k1 =>
 f25_i502_2 a0 a1 N k0 k1 N [x2] (0 : Int) false)
def G25 (ds : List D) (d : D) : Prop := ∃ (N : Nat) (a0 : Layout) (a1 : List Cut) (r : Int), ds = [Layout.d a0, sl_Cut a1] ∧ f25 N a0 a1 = some r ∧ d = iN r
theorem G25.step {N : Nat} {a0 : Layout} {a1 : List Cut} {ρ : Type} {A : Int → Option ρ} {q : ρ} {ds : List D} {K : D → Prop} (hd : ds = [Layout.d a0, sl_Cut a1]) (h : ∀ r, A r = some q → K (iN r)) (hF : (f25 N a0 a1).bind A = some q) : ∃ d, G25 ds d ∧ K d := by
  obtain ⟨r, hr, hA⟩ := bind_some hF
  exact ⟨_, ⟨N, a0, a1, r, hd, hr, rfl⟩, h r hA⟩
set_option maxRecDepth 20000 in
set_option maxHeartbeats 4000000 in
theorem P25 : PureOK Try.prog 25 G25 := by
  refine pure_of_vc (c := mkCtx tyTree [(60, false, inlPg (mkCtx tyTree [(61, false, inlPg (mkCtx tyTree []) Try.f61), (69, true, purePg [[0, 0, 0, 0, 4], [0, 0]] G69), (44, true, purePg [[0, 0, 4]] G44)]) Try.f60), (20, true, purePg [[0, 0, 4]] G20)]) rfl tyOK (ctx_eff (callable Try.func60 rfl rfl) (CallOK.inl rfl tyOK (ctx_eff (callable Try.func61 rfl rfl) (CallOK.inl rfl tyOK (ctx_nil) Try.func61 (by kernel_rfl)) (ctx_cons (callable Try.func69 rfl rfl) P69 (ctx_cons (callable Try.func44 rfl rfl) P44 (ctx_nil)))) Try.func60 (by kernel_rfl)) (ctx_cons (callable Try.func20 rfl rfl) P20 (ctx_nil))) [[0]] 2 Try.func25 rfl rfl (by decide) (by kernel_rfl) ?_
  rintro ds d ⟨N, a0, a1, r, rfl, hF, rfl⟩ hok
  clear hok
  refine ⟨rfl, ?_⟩
  show vc _ _ _ _ ⟨[(0, .dat (Layout.d a0)), (1, .dat (sl_Cut a1))], []⟩ _
  unfold f25 at hF
  repeat' (first
    | ((with_reducible refine q0 _ _ ?_); clear Q q0 q1 q2)
    | ((with_reducible refine q1 _ _ _ _ ?_); clear Q q0 q1 q2)
    | ((with_reducible refine q2 _ _ _ ?_); clear Q q0 q1 q2)
    | ((with_reducible refine seq_op ?hx (fun Q q0 q1 q2 => ?_)); (case hx => exact rfl); conv => whnf)
    | ((with_reducible refine seq_op0 ?hx (fun Q q0 q1 q2 => ?_)); (case hx => exact rfl); conv => whnf)
    | ((with_reducible refine seq_off ?hx ?_); (case hx => exact rfl))
    | ((with_reducible refine seq_off0 ?hx ?_); (case hx => exact rfl))
    | ((with_reducible refine seq_id ?_); (first | ((refine seq_opK rfl ?hy (fun Q q0 q1 q2 => ?_)); (case hy => first | assumption | exact notT (by assumption) | exact rfl); conv => whnf) | ((refine seq_offK rfl ?hy ?_); (case hy => first | assumption | exact notF (by assumption) | exact rfl)) | ((refine seq_opK0 rfl ?hy (fun Q q0 q1 q2 => ?_)); (case hy => first | assumption | exact notT (by assumption) | exact rfl); conv => whnf) | ((refine seq_offK0 rfl ?hy ?_); (case hy => first | assumption | exact notF (by assumption) | exact rfl)) | (revert hF; (with_reducible refine seq_opF ?hx ?_ ?_); (case hx => exact rfl); (intro hc hF Q q0 q1 q2; conv => whnf); rotate_left; (intro hc hF); rotate_right) | (revert hF; (with_reducible refine seq_opN ?hx ?_ ?_); (case hx => exact rfl); (intro hc hF); rotate_left; (intro hc hF Q q0 q1 q2; conv => whnf); rotate_right) | (revert hF; (with_reducible refine seq_opF0 ?hx ?_ ?_); (case hx => exact rfl); (intro hc hF Q q0 q1 q2; conv => whnf); rotate_left; (intro hc hF); rotate_right) | (revert hF; (with_reducible refine seq_opN0 ?hx ?_ ?_); (case hx => exact rfl); (intro hc hF); rotate_left; (intro hc hF Q q0 q1 q2; conv => whnf); rotate_right)))
    | ((with_reducible refine cond_id ?_); (first | ((refine condKT rfl ?hy ?_); (case hy => first | assumption | exact notT (by assumption) | exact rfl)) | ((refine condKF rfl ?hy ?_); (case hy => first | assumption | exact notF (by assumption) | exact rfl)) | (revert hF; (with_reducible refine condF ?hx ?_ ?_); (case hx => exact rfl); all_goals (intro hc hF))))
    | ((with_reducible refine seq_nil ?_); (first | ((with_reducible refine hR _ ?_); clear R hR) | ((with_reducible refine hL _ ?_); clear L hL)))
    | ((with_reducible refine int_step ?_); conv => whnf)
    | ((with_reducible refine len_step ?_); conv => whnf)
    | ((with_reducible refine idx2 (by assumption) ?_); conv => whnf)
    | ((with_reducible refine idx3 (by assumption) ?_); conv => whnf)
    | with_reducible refine vc_block ?_
    | with_reducible refine vc_skip ?_
    | with_reducible refine vc_ret ?_
    | with_reducible refine vc_exit ?_
    | ((with_reducible refine vc_seqN [6, 503000000011, 503000000007] ?hx ?_); (case hx => exact rfl))
    | (with_reducible refine vc_region (fun R hR => ?_))
    | fail
    | (revert hF; (refine Cf25_c6 rfl rfl ?_ ?_); (intro hF); rotate_left; (intro is9 b400_0 b401_0 hF; unfold f25_c6 at hF); rotate_right)
    | exact Zf25_c6 hF ⟨_, rfl, rfl, rfl, rfl⟩
    | (revert hF; (refine Cf25_i502_c11 rfl rfl ?_ ?_); (intro hF); rotate_left; (intro b400_0 b401_0 hF; unfold f25_i502_c11 at hF); rotate_right)
    | exact Zf25_i502_c11 hF ⟨_, rfl, rfl, rfl, rfl⟩
    | (revert hF; (refine Cf25_i502_c7 rfl rfl ?_ ?_); (intro hF); rotate_left; (intro is9 b606_0 b606_1 b400_0' b401_0' hF; unfold f25_i502_c7 at hF); rotate_right)
    | exact Zf25_i502_c7 hF ⟨_, rfl, rfl, rfl, rfl⟩ (by first | exact rfl | assumption | omega)
    | (revert hF; (refine Lf25_i502_2 rfl ⟨_, rfl, rfl, rfl, rfl⟩ (by first | exact rfl | assumption | omega) ?_); intro n stack6 b400_0 b401_0 hF; unfold f25_i502_2b at hF)
    | exact Mf25_i502_2 hF ⟨_, rfl, rfl, rfl, rfl⟩ (by first | exact rfl | assumption | omega)
    | (revert hF; (with_reducible refine G20.step ?hx ?_); (case hx => exact rfl); intro v hF; conv => whnf)
    | (revert hF; (with_reducible refine G44.step ?hx ?_); (case hx => exact rfl); intro v hF; conv => whnf)
    | (revert hF; (with_reducible refine G69.step ?hx ?_); (case hx => exact rfl); intro v hF; conv => whnf)
    | with_reducible refine k_seq_ret ?_
    | with_reducible refine k_seq_exit ?_
    | with_reducible refine k_blk ?_
    | with_reducible refine k_blk_ret ?_
    | with_reducible refine k_blk_here ?_
    | ((with_reducible refine k_blk_out ?hx ?_); (case hx => exact rfl))
    | with_reducible refine k_loop_ret ?_
    | with_reducible refine k_loop_exit ?_
    | (revert hF; (with_reducible refine idx1 ?hn ?_); (case hn => first | exact rfl | exact (List.length_map _) | assumption | omega | simp); intro x hx hF; conv => whnf)
    | ((with_reducible have hG := sub_fact hF); clear hF; (first | (refine sub_step hG (fun q hF => ?_)) | (refine subrow_step hG ?hn (fun q hF => ?_); (case hn => first | exact rfl | assumption | omega))); clear hG; conv => whnf)
    | ((with_reducible have hG := app_fact hF); clear hF; (first | ((refine app_row hG ?hn ?hs (fun q hF => ?_)); (case hn => first | exact rfl | assumption | omega); (case hs => exact rfl)) | ((refine app_nil (d := Piece.d) hG ?hs (fun q hF => ?_)); (case hs => exact rfl)) | ((refine app_gen (d := Piece.d) hG ?ho ?hn ?hs (fun q hF => ?_)); (case ho => exact rfl); (case hn => exact rfl); (case hs => exact rfl))); clear hG; conv => whnf)
    | ((refine row_all ?hn ?_); (case hn => first | exact rfl | (simp; done) | (simp; omega)); conv => whnf)
    | ((with_reducible refine le_step ?hn ?_); (case hn => first | exact rfl | assumption | omega); conv => whnf)
    | ((refine ⟨?hx, ?_⟩); (case hx => exact ⟨rfl, Nat.le_of_ble_eq_true rfl, rfl⟩); conv => whnf)
    | ((with_reducible refine ex_step ?_); conv => whnf)
    | ((with_reducible refine both_T ?hx ?_); (case hx => first | exact rfl | assumption | exact notT (by assumption)); conv => whnf)
    | ((with_reducible refine both_F ?hx ?_); (case hx => first | exact rfl | assumption | exact notF (by assumption)); conv => whnf)
    | (revert hF; (with_reducible refine ite_step ?_ ?_) <;> (intro hc hF; conv => whnf))
    | ((with_reducible refine vc_condT ?hx ?_); (case hx => exact rfl))
    | ((with_reducible refine vc_condF ?hx ?_); (case hx => exact rfl))
    | (show retD _ _ _ _ _ _; conv => whnf)
    | ((refine inl_step ?ha ?hb ?hc rfl ?_); (case ha => exact rfl); (case hb => omega); (case hc => exact Nat.le_of_ble_eq_true rfl))
    | (show Kinl _ _ _ _ _ _ _; conv => whnf)
    | ((with_reducible refine kinl_step ?ha ?hb ?_); (case ha => exact rfl); (case hb => exact rfl); conv => whnf)
    | ((refine ⟨?hx, trivial⟩); (case hx => (cases hF; exact rfl)))
    | ((refine ⟨?hx, ?_⟩); (case hx => decide); conv => whnf)
    | ((with_reducible refine k_seq ?_))
    | (have hF : (none : Option _) = some _ := hF; cases hF))
end
end Go.Vc
namespace Go.Vc
open Go.Proofs
set_option linter.unusedVariables false
set_option linter.unnecessarySimpa false
set_option linter.unusedSimpArgs false
section
variable {c : Ctx} {p nid : Nat} {a b : Code} {st : St} {K : Ex → St → Prop}
/- f66: tusche/cut.asked -/
def f66 (N : Nat) (a0 : Int) (a1 : Int) (a2 : List Kind) : Option (Int) :=
 (f52 N (1 : Int) a0 (12 : Int)).bind fun x1 =>
 bif !x1 then (some ((3 : Int)))
 else ((f52 N (1 : Int) a1 (12 : Int)).bind fun x2 =>
 bif !x2 then (some ((3 : Int)))
 else ((f48 N a2).bind fun x3 =>
 some (x3)))
def G66 (ds : List D) (d : D) : Prop := ∃ (N : Nat) (a0 : Int) (a1 : Int) (a2 : List Kind) (r : Int), ds = [iN a0, iN a1, sl_Kind a2] ∧ f66 N a0 a1 a2 = some r ∧ d = iN r
theorem G66.step {N : Nat} {a0 : Int} {a1 : Int} {a2 : List Kind} {ρ : Type} {A : Int → Option ρ} {q : ρ} {ds : List D} {K : D → Prop} (hd : ds = [iN a0, iN a1, sl_Kind a2]) (h : ∀ r, A r = some q → K (iN r)) (hF : (f66 N a0 a1 a2).bind A = some q) : ∃ d, G66 ds d ∧ K d := by
  obtain ⟨r, hr, hA⟩ := bind_some hF
  exact ⟨_, ⟨N, a0, a1, a2, r, hd, hr, rfl⟩, h r hA⟩
set_option maxRecDepth 20000 in
set_option maxHeartbeats 4000000 in
theorem P66 : PureOK Try.prog 66 G66 := by
  refine pure_of_vc (c := mkCtx tyTree [(52, true, purePg [[0], [0], [0]] G52), (48, true, purePg [[3]] G48)]) rfl tyOK (ctx_cons (callable Try.func52 rfl rfl) P52 (ctx_cons (callable Try.func48 rfl rfl) P48 (ctx_nil))) [[0]] 3 Try.func66 rfl rfl (by decide) (by kernel_rfl) ?_
  rintro ds d ⟨N, a0, a1, a2, r, rfl, hF, rfl⟩ hok
  clear hok
  refine ⟨rfl, ?_⟩
  show vc _ _ _ _ ⟨[(0, .dat (iN a0)), (1, .dat (iN a1)), (2, .dat (sl_Kind a2))], []⟩ _
  unfold f66 at hF
  repeat' (first
    | ((with_reducible refine q0 _ _ ?_); clear Q q0 q1 q2)
    | ((with_reducible refine q1 _ _ _ _ ?_); clear Q q0 q1 q2)
    | ((with_reducible refine q2 _ _ _ ?_); clear Q q0 q1 q2)
    | ((with_reducible refine seq_op ?hx (fun Q q0 q1 q2 => ?_)); (case hx => exact rfl); conv => whnf)
    | ((with_reducible refine seq_off ?hx ?_); (case hx => exact rfl))
    | ((with_reducible refine seq_off0 ?hx ?_); (case hx => exact rfl))
    | ((with_reducible refine seq_id ?_); (first | ((refine seq_opK rfl ?hy (fun Q q0 q1 q2 => ?_)); (case hy => first | assumption | exact notT (by assumption) | exact rfl); conv => whnf) | ((refine seq_offK rfl ?hy ?_); (case hy => first | assumption | exact notF (by assumption) | exact rfl)) | ((refine seq_opK0 rfl ?hy (fun Q q0 q1 q2 => ?_)); (case hy => first | assumption | exact notT (by assumption) | exact rfl); conv => whnf) | ((refine seq_offK0 rfl ?hy ?_); (case hy => first | assumption | exact notF (by assumption) | exact rfl)) | (revert hF; (with_reducible refine seq_opF ?hx ?_ ?_); (case hx => exact rfl); (intro hc hF Q q0 q1 q2; conv => whnf); rotate_left; (intro hc hF); rotate_right) | (revert hF; (with_reducible refine seq_opN ?hx ?_ ?_); (case hx => exact rfl); (intro hc hF); rotate_left; (intro hc hF Q q0 q1 q2; conv => whnf); rotate_right) | (revert hF; (with_reducible refine seq_opF0 ?hx ?_ ?_); (case hx => exact rfl); (intro hc hF Q q0 q1 q2; conv => whnf); rotate_left; (intro hc hF); rotate_right) | (revert hF; (with_reducible refine seq_opN0 ?hx ?_ ?_); (case hx => exact rfl); (intro hc hF); rotate_left; (intro hc hF Q q0 q1 q2; conv => whnf); rotate_right)))
    | ((with_reducible refine cond_id ?_); (first | ((refine condKT rfl ?hy ?_); (case hy => first | assumption | exact notT (by assumption) | exact rfl)) | ((refine condKF rfl ?hy ?_); (case hy => first | assumption | exact notF (by assumption) | exact rfl)) | (revert hF; (with_reducible refine condF ?hx ?_ ?_); (case hx => exact rfl); all_goals (intro hc hF))))
    | ((with_reducible refine seq_nil ?_); (first | ((with_reducible refine hR _ ?_); clear R hR) | ((with_reducible refine hL _ ?_); clear L hL)))
    | ((with_reducible refine int_step ?_); conv => whnf)
    | with_reducible refine vc_block ?_
    | with_reducible refine vc_skip ?_
    | with_reducible refine vc_ret ?_
    | with_reducible refine vc_exit ?_
    | ((with_reducible refine vc_seqN [] ?hx ?_); (case hx => exact rfl))
    | (with_reducible refine vc_region (fun R hR => ?_))
    | fail
    | (revert hF; (with_reducible refine G48.step ?hx ?_); (case hx => exact rfl); intro v hF; conv => whnf)
    | (revert hF; (with_reducible refine G52.step ?hx ?_); (case hx => exact rfl); intro v hF; conv => whnf)
    | with_reducible refine k_seq_ret ?_
    | with_reducible refine k_seq_exit ?_
    | with_reducible refine k_blk ?_
    | with_reducible refine k_blk_ret ?_
    | with_reducible refine k_blk_here ?_
    | ((with_reducible refine k_blk_out ?hx ?_); (case hx => exact rfl))
    | ((refine row_all ?hn ?_); (case hn => first | exact rfl | (simp; done) | (simp; omega)); conv => whnf)
    | ((with_reducible refine le_step ?hn ?_); (case hn => first | exact rfl | assumption | omega); conv => whnf)
    | ((refine ⟨?hx, ?_⟩); (case hx => exact ⟨rfl, Nat.le_of_ble_eq_true rfl, rfl⟩); conv => whnf)
    | ((with_reducible refine ex_step ?_); conv => whnf)
    | ((with_reducible refine both_T ?hx ?_); (case hx => first | exact rfl | assumption | exact notT (by assumption)); conv => whnf)
    | ((with_reducible refine both_F ?hx ?_); (case hx => first | exact rfl | assumption | exact notF (by assumption)); conv => whnf)
    | (revert hF; (with_reducible refine ite_step ?_ ?_) <;> (intro hc hF; conv => whnf))
    | ((with_reducible refine vc_condT ?hx ?_); (case hx => exact rfl))
    | ((with_reducible refine vc_condF ?hx ?_); (case hx => exact rfl))
    | (show retD _ _ _ _ _ _; conv => whnf)
    | ((refine ⟨?hx, trivial⟩); (case hx => (cases hF; exact rfl)))
    | ((refine ⟨?hx, ?_⟩); (case hx => decide); conv => whnf)
    | ((with_reducible refine k_seq ?_))
    | (have hF : (none : Option _) = some _ := hF; cases hF))
end
end Go.Vc
namespace Go.Vc
open Go.Proofs
set_option linter.unusedVariables false
set_option linter.unnecessarySimpa false
set_option linter.unusedSimpArgs false
section
variable {c : Ctx} {p nid : Nat} {a b : Code} {st : St} {K : Ex → St → Prop}
/- f75: (tusche/cut.choice).better -/
def f75 (N : Nat) (a0 : Choice) (a1 : Choice) : Option (Bool) :=
 bif decide (a1.worth < a0.worth) then (some (true))
 else (bif decide (a0.worth = a1.worth) then (some (decide (a0.labels < a1.labels)))
 else (some (false)))
def G75 (ds : List D) (d : D) : Prop := ∃ (N : Nat) (a0 : Choice) (a1 : Choice) (r : Bool), ds = [Choice.d a0, Choice.d a1] ∧ f75 N a0 a1 = some r ∧ d = bN r
theorem G75.step {N : Nat} {a0 : Choice} {a1 : Choice} {ρ : Type} {A : Bool → Option ρ} {q : ρ} {ds : List D} {K : D → Prop} (hd : ds = [Choice.d a0, Choice.d a1]) (h : ∀ r, A r = some q → K (bN r)) (hF : (f75 N a0 a1).bind A = some q) : ∃ d, G75 ds d ∧ K d := by
  obtain ⟨r, hr, hA⟩ := bind_some hF
  exact ⟨_, ⟨N, a0, a1, r, hd, hr, rfl⟩, h r hA⟩
set_option maxRecDepth 20000 in
set_option maxHeartbeats 4000000 in
theorem P75 : PureOK Try.prog 75 G75 := by
  refine pure_of_vc (c := mkCtx tyTree []) rfl tyOK (ctx_nil) [[0]] 2 Try.func75 rfl rfl (by decide) (by kernel_rfl) ?_
  rintro ds d ⟨N, a0, a1, r, rfl, hF, rfl⟩ hok
  clear hok
  refine ⟨rfl, ?_⟩
  show vc _ _ _ _ ⟨[(0, .dat (Choice.d a0)), (1, .dat (Choice.d a1))], []⟩ _
  unfold f75 at hF
  repeat' (first
    | ((with_reducible refine q0 _ _ ?_); clear Q q0 q1 q2)
    | ((with_reducible refine q1 _ _ _ _ ?_); clear Q q0 q1 q2)
    | ((with_reducible refine q2 _ _ _ ?_); clear Q q0 q1 q2)
    | ((with_reducible refine seq_op ?hx (fun Q q0 q1 q2 => ?_)); (case hx => exact rfl); conv => whnf)
    | ((with_reducible refine seq_off ?hx ?_); (case hx => exact rfl))
    | ((with_reducible refine seq_off0 ?hx ?_); (case hx => exact rfl))
    | ((with_reducible refine seq_id ?_); (first | ((refine seq_opK rfl ?hy (fun Q q0 q1 q2 => ?_)); (case hy => first | assumption | exact notT (by assumption) | exact rfl); conv => whnf) | ((refine seq_offK rfl ?hy ?_); (case hy => first | assumption | exact notF (by assumption) | exact rfl)) | ((refine seq_opK0 rfl ?hy (fun Q q0 q1 q2 => ?_)); (case hy => first | assumption | exact notT (by assumption) | exact rfl); conv => whnf) | ((refine seq_offK0 rfl ?hy ?_); (case hy => first | assumption | exact notF (by assumption) | exact rfl)) | (revert hF; (with_reducible refine seq_opF ?hx ?_ ?_); (case hx => exact rfl); (intro hc hF Q q0 q1 q2; conv => whnf); rotate_left; (intro hc hF); rotate_right) | (revert hF; (with_reducible refine seq_opN ?hx ?_ ?_); (case hx => exact rfl); (intro hc hF); rotate_left; (intro hc hF Q q0 q1 q2; conv => whnf); rotate_right) | (revert hF; (with_reducible refine seq_opF0 ?hx ?_ ?_); (case hx => exact rfl); (intro hc hF Q q0 q1 q2; conv => whnf); rotate_left; (intro hc hF); rotate_right) | (revert hF; (with_reducible refine seq_opN0 ?hx ?_ ?_); (case hx => exact rfl); (intro hc hF); rotate_left; (intro hc hF Q q0 q1 q2; conv => whnf); rotate_right)))
    | ((with_reducible refine seq_nil ?_); (first | ((with_reducible refine hR _ ?_); clear R hR) | ((with_reducible refine hL _ ?_); clear L hL)))
    | ((with_reducible refine int_step ?_); conv => whnf)
    | with_reducible refine vc_skip ?_
    | with_reducible refine vc_ret ?_
    | ((with_reducible refine vc_seqN [] ?hx ?_); (case hx => exact rfl))
    | (with_reducible refine vc_region (fun R hR => ?_))
    | fail
    | with_reducible refine k_seq_ret ?_
    | ((refine row_all ?hn ?_); (case hn => first | exact rfl | (simp; done) | (simp; omega)); conv => whnf)
    | ((with_reducible refine le_step ?hn ?_); (case hn => first | exact rfl | assumption | omega); conv => whnf)
    | ((refine ⟨?hx, ?_⟩); (case hx => exact ⟨rfl, Nat.le_of_ble_eq_true rfl, rfl⟩); conv => whnf)
    | ((with_reducible refine ex_step ?_); conv => whnf)
    | ((with_reducible refine both_T ?hx ?_); (case hx => first | exact rfl | assumption | exact notT (by assumption)); conv => whnf)
    | ((with_reducible refine both_F ?hx ?_); (case hx => first | exact rfl | assumption | exact notF (by assumption)); conv => whnf)
    | (revert hF; (with_reducible refine ite_step ?_ ?_) <;> (intro hc hF; conv => whnf))
    | (show retD _ _ _ _ _ _; conv => whnf)
    | ((refine ⟨?hx, trivial⟩); (case hx => (cases hF; exact rfl)))
    | ((refine ⟨?hx, ?_⟩); (case hx => decide); conv => whnf)
    | ((with_reducible refine k_seq ?_))
    | (have hF : (none : Option _) = some _ := hF; cases hF))
end
end Go.Vc
namespace Go.Vc
open Go.Proofs
set_option linter.unusedVariables false
set_option linter.unnecessarySimpa false
set_option linter.unusedSimpArgs false
section
variable {c : Ctx} {p nid : Nat} {a b : Code} {st : St} {K : Ex → St → Prop}
/- f29: tusche/cut.Best -/
def f29_i403_c21 (a0 : Int) (a1 : Int) (b101 : List Choice) : Option (Int × Int) :=
 (chkI 13 a0).bind fun _ =>
 (chkI 13 a1).bind fun _ =>
 (ixN b101 (Int.toNat a0 * 13 + Int.toNat a1)).bind fun x2 =>
 some (x2.worth, (0 : Int))
def Sf29_i403_c21 : Ann := ⟨[7], [404000101], [], []⟩
def Vf29_i403_c21 (b101 : List Choice) : List SV := [.ptr 404000101 0]
def Bf29_i403_c21 (b101 : List Choice) : List Blk := [.arr (flatC Choice.d b101)]
def Yf29_i403_c21 (y : (List Choice)) : List SV := Vf29_i403_c21 y
def Xf29_i403_c21 (y : (List Choice)) : List Blk := Bf29_i403_c21 y
def Jf29_i403_c21 (a0 : Int) (a1 : Int) (r : Int × Int) (y : (List Choice)) : Prop := f29_i403_c21 a0 a1 y = some r
theorem Cf29_i403_c21 {r : Int × Int} {a0 : Int} {a1 : Int} {g : _ → Option (Int × Int)} (hn : Nat.beq (nid * 1000 + firstRegion b) 404000000021 = true) (hz : Sf29_i403_c21.ok p = true) (h : g (f29_i403_c21 a0 a1) = some r → vc c p nid a st (KHead Sf29_i403_c21 Yf29_i403_c21 Xf29_i403_c21 (Jf29_i403_c21 a0 a1 r) K)) (h2 : ∀ (b101 : List Choice), f29_i403_c21 a0 a1 b101 = some r → vc c p nid b (St.mk' Sf29_i403_c21 (Vf29_i403_c21 b101) (Bf29_i403_c21 b101)) K) (hF : joinK (f29_i403_c21 a0 a1) g = some r) : vc c p nid (.seq a b) st K :=
  vc_cut Sf29_i403_c21 Yf29_i403_c21 Xf29_i403_c21 (Jf29_i403_c21 a0 a1 r) hz (h hF) fun y hy => h2 y hy
theorem Zf29_i403_c21 {r : Int × Int} {a0 : Int} {a1 : Int} {b101 : List Choice} (hF : f29_i403_c21 a0 a1 b101 = some r) (h0 : AtH Sf29_i403_c21 st (Vf29_i403_c21 b101) (Bf29_i403_c21 b101)) : KHead Sf29_i403_c21 Yf29_i403_c21 Xf29_i403_c21 (Jf29_i403_c21 a0 a1 r) K .normal st := by
  exact khead (I := (Jf29_i403_c21 a0 a1 r)) (x := (b101)) hF h0
def f29_i403_c4 (a0 : Int) (a1 : Int) (a2 : List Kind) (v8 : Int) (r3 : Int → (List Choice) → Option (Int × Int)) (b101' : List Choice) : Option (Int × Int) :=
 r3 (W (v8 + (1 : Int))) (b101')
def Sf29_i403_c4 : Ann := ⟨[0, 1, 2, 7, 8], [404000101], [], []⟩
def Vf29_i403_c4 (a0 : Int) (a1 : Int) (a2 : List Kind) (v8 : Int) (b101' : List Choice) : List SV := [.dat (iN a0), .dat (iN a1), .dat (sl_Kind a2), .ptr 404000101 0, .dat (iN v8)]
def Bf29_i403_c4 (a0 : Int) (a1 : Int) (a2 : List Kind) (v8 : Int) (b101' : List Choice) : List Blk := [.arr (flatC Choice.d (b101'))]
def Yf29_i403_c4 (a0 : Int) (a1 : Int) (a2 : List Kind) (v8 : Int) (y : (List Choice)) : List SV := Vf29_i403_c4 a0 a1 a2 v8 y
def Xf29_i403_c4 (a0 : Int) (a1 : Int) (a2 : List Kind) (v8 : Int) (y : (List Choice)) : List Blk := Bf29_i403_c4 a0 a1 a2 v8 y
def Jf29_i403_c4 (a0 : Int) (a1 : Int) (a2 : List Kind) (v8 : Int) (r3 : Int → (List Choice) → Option (Int × Int)) (r : Int × Int) (y : (List Choice)) : Prop := f29_i403_c4 a0 a1 a2 v8 r3 y = some r
theorem Cf29_i403_c4 {r : Int × Int} {a0 : Int} {a1 : Int} {a2 : List Kind} {v8 : Int} {r3 : Int → (List Choice) → Option (Int × Int)} {g : _ → Option (Int × Int)} (hn : Nat.beq (nid * 1000 + firstRegion b) 404000000004 = true) (hz : Sf29_i403_c4.ok p = true) (h : g (f29_i403_c4 a0 a1 a2 v8 r3) = some r → vc c p nid a st (KHead Sf29_i403_c4 (Yf29_i403_c4 a0 a1 a2 v8) (Xf29_i403_c4 a0 a1 a2 v8) (Jf29_i403_c4 a0 a1 a2 v8 r3 r) K)) (h2 : ∀ (b101' : List Choice), f29_i403_c4 a0 a1 a2 v8 r3 b101' = some r → vc c p nid b (St.mk' Sf29_i403_c4 (Vf29_i403_c4 a0 a1 a2 v8 b101') (Bf29_i403_c4 a0 a1 a2 v8 b101')) K) (hF : joinK (f29_i403_c4 a0 a1 a2 v8 r3) g = some r) : vc c p nid (.seq a b) st K :=
  vc_cut Sf29_i403_c4 (Yf29_i403_c4 a0 a1 a2 v8) (Xf29_i403_c4 a0 a1 a2 v8) (Jf29_i403_c4 a0 a1 a2 v8 r3 r) hz (h hF) fun y hy => h2 y hy
theorem Zf29_i403_c4 {r : Int × Int} {a0 : Int} {a1 : Int} {a2 : List Kind} {v8 : Int} {r3 : Int → (List Choice) → Option (Int × Int)} {b101' : List Choice} (hF : f29_i403_c4 a0 a1 a2 v8 r3 b101' = some r) (h0 : AtH Sf29_i403_c4 st (Vf29_i403_c4 a0 a1 a2 v8 b101') (Bf29_i403_c4 a0 a1 a2 v8 b101')) : KHead Sf29_i403_c4 (Yf29_i403_c4 a0 a1 a2 v8) (Xf29_i403_c4 a0 a1 a2 v8) (Jf29_i403_c4 a0 a1 a2 v8 r3 r) K .normal st := by
  exact khead (I := (Jf29_i403_c4 a0 a1 a2 v8 r3 r)) (x := (b101')) hF h0
def f29_i403_c7 (a0 : Int) (a1 : Int) (a2 : List Kind) (v8 : Int) (v9 : Int) (r6 : Int → (List Choice) → Option (Int × Int)) (b101'' : List Choice) : Option (Int × Int) :=
 r6 (W (v9 + (1 : Int))) (b101'')
def Sf29_i403_c7 : Ann := ⟨[0, 1, 2, 7, 8, 9], [404000101], [], []⟩
def Vf29_i403_c7 (a0 : Int) (a1 : Int) (a2 : List Kind) (v8 : Int) (v9 : Int) (b101'' : List Choice) : List SV := [.dat (iN a0), .dat (iN a1), .dat (sl_Kind a2), .ptr 404000101 0, .dat (iN v8), .dat (iN v9)]
def Bf29_i403_c7 (a0 : Int) (a1 : Int) (a2 : List Kind) (v8 : Int) (v9 : Int) (b101'' : List Choice) : List Blk := [.arr (flatC Choice.d (b101''))]
def Yf29_i403_c7 (a0 : Int) (a1 : Int) (a2 : List Kind) (v8 : Int) (v9 : Int) (y : (List Choice)) : List SV := Vf29_i403_c7 a0 a1 a2 v8 v9 y
def Xf29_i403_c7 (a0 : Int) (a1 : Int) (a2 : List Kind) (v8 : Int) (v9 : Int) (y : (List Choice)) : List Blk := Bf29_i403_c7 a0 a1 a2 v8 v9 y
def Jf29_i403_c7 (a0 : Int) (a1 : Int) (a2 : List Kind) (v8 : Int) (v9 : Int) (r6 : Int → (List Choice) → Option (Int × Int)) (r : Int × Int) (y : (List Choice)) : Prop := f29_i403_c7 a0 a1 a2 v8 v9 r6 y = some r
theorem Cf29_i403_c7 {r : Int × Int} {a0 : Int} {a1 : Int} {a2 : List Kind} {v8 : Int} {v9 : Int} {r6 : Int → (List Choice) → Option (Int × Int)} {g : _ → Option (Int × Int)} (hn : Nat.beq (nid * 1000 + firstRegion b) 404000000007 = true) (hz : Sf29_i403_c7.ok p = true) (h : g (f29_i403_c7 a0 a1 a2 v8 v9 r6) = some r → vc c p nid a st (KHead Sf29_i403_c7 (Yf29_i403_c7 a0 a1 a2 v8 v9) (Xf29_i403_c7 a0 a1 a2 v8 v9) (Jf29_i403_c7 a0 a1 a2 v8 v9 r6 r) K)) (h2 : ∀ (b101'' : List Choice), f29_i403_c7 a0 a1 a2 v8 v9 r6 b101'' = some r → vc c p nid b (St.mk' Sf29_i403_c7 (Vf29_i403_c7 a0 a1 a2 v8 v9 b101'') (Bf29_i403_c7 a0 a1 a2 v8 v9 b101'')) K) (hF : joinK (f29_i403_c7 a0 a1 a2 v8 v9 r6) g = some r) : vc c p nid (.seq a b) st K :=
  vc_cut Sf29_i403_c7 (Yf29_i403_c7 a0 a1 a2 v8 v9) (Xf29_i403_c7 a0 a1 a2 v8 v9) (Jf29_i403_c7 a0 a1 a2 v8 v9 r6 r) hz (h hF) fun y hy => h2 y hy
theorem Zf29_i403_c7 {r : Int × Int} {a0 : Int} {a1 : Int} {a2 : List Kind} {v8 : Int} {v9 : Int} {r6 : Int → (List Choice) → Option (Int × Int)} {b101'' : List Choice} (hF : f29_i403_c7 a0 a1 a2 v8 v9 r6 b101'' = some r) (h0 : AtH Sf29_i403_c7 st (Vf29_i403_c7 a0 a1 a2 v8 v9 b101'') (Bf29_i403_c7 a0 a1 a2 v8 v9 b101'')) : KHead Sf29_i403_c7 (Yf29_i403_c7 a0 a1 a2 v8 v9) (Xf29_i403_c7 a0 a1 a2 v8 v9) (Jf29_i403_c7 a0 a1 a2 v8 v9 r6 r) K .normal st := by
  exact khead (I := (Jf29_i403_c7 a0 a1 a2 v8 v9 r6 r)) (x := (b101'')) hF h0
def f29_i403_18b (r18 : Int → (List Choice) → Option (Int × Int)) (a0 : Int) (a1 : Int) (a2 : List Kind) (N : Nat) (v8 : Int) (v9 : Int) (k2 : (List Choice) → Option (Int × Int)) (v15 : Int) (b101'''' : List Choice) : Option (Int × Int) :=
 bif decide (v15 < v9) then ((chkI 13 v8).bind fun _ =>
 (chkI 13 v15).bind fun _ =>
 (ixN (b101'''') (Int.toNat v8 * 13 + Int.toNat v15)).bind fun x3 =>
 (chkI 13 v8).bind fun _ =>
 (chkI 13 (W (v9 - v15))).bind fun _ =>
 (ixN (b101'''') (Int.toNat v8 * 13 + Int.toNat (W (v9 - v15)))).bind fun x4 =>
 (ixN (b101'''') (Int.toNat v8 * 13 + Int.toNat v9)).bind fun x5 =>
 (f75 N (Choice.mk (W (x3.worth + x4.worth)) (W (x3.labels + x4.labels)) false (Cut.mk false v15)) x5).bind fun x6 =>
 bif x6 then ((setN (b101'''') (Int.toNat v8 * 13 + Int.toNat v9) (Choice.mk (W (x3.worth + x4.worth)) (W (x3.labels + x4.labels)) false (Cut.mk false v15))).bind fun x7 =>
 r18 (W (v15 + (1 : Int))) x7)
 else (r18 (W (v15 + (1 : Int))) (b101'''')))
 else (k2 (b101''''))
def f29_i403_18 (a0 : Int) (a1 : Int) (a2 : List Kind) (N : Nat) (v8 : Int) (v9 : Int) (k2 : (List Choice) → Option (Int × Int)) : Nat → Int → (List Choice) → Option (Int × Int)
  | 0, _, _ => none
  | n + 1, v15, b101'''' => f29_i403_18b (f29_i403_18 a0 a1 a2 N v8 v9 k2 n) a0 a1 a2 N v8 v9 k2 v15 b101''''
def Sf29_i403_18 : Ann := ⟨[0, 1, 2, 7, 8, 9, 13, 15], [404000101, 404000806], [], []⟩
def Vf29_i403_18 (a0 : Int) (a1 : Int) (a2 : List Kind) (v8 : Int) (v9 : Int) (v15 : Int) (b101'''' : List Choice) : List SV := [.dat (iN a0), .dat (iN a1), .dat (sl_Kind a2), .ptr 404000101 0, .dat (iN v8), .dat (iN v9), .fn 74 [] [.ptr 404000806 0], .dat (iN v15)]
def Bf29_i403_18 (a0 : Int) (a1 : Int) (a2 : List Kind) (v8 : Int) (v9 : Int) (v15 : Int) (b101'''' : List Choice) : List Blk := [.arr (flatC Choice.d (b101'''')), .box [.ptr 404000101 (0 + Int.toNat v8 * 65 + Int.toNat v9 * 5)]]
def Yf29_i403_18 (a0 : Int) (a1 : Int) (a2 : List Kind) (v8 : Int) (v9 : Int) (y : Nat × Int × (List Choice)) : List SV := Vf29_i403_18 a0 a1 a2 v8 v9 y.2.1 y.2.2
def Xf29_i403_18 (a0 : Int) (a1 : Int) (a2 : List Kind) (v8 : Int) (v9 : Int) (y : Nat × Int × (List Choice)) : List Blk := Bf29_i403_18 a0 a1 a2 v8 v9 y.2.1 y.2.2
def Jf29_i403_18 (a0 : Int) (a1 : Int) (a2 : List Kind) (N : Nat) (v8 : Int) (v9 : Int) (k2 : (List Choice) → Option (Int × Int)) (r : Int × Int) (y : Nat × Int × (List Choice)) : Prop := f29_i403_18 a0 a1 a2 N v8 v9 k2 y.1 y.2.1 y.2.2 = some r
theorem Lf29_i403_18 {r : Int × Int} {a0 : Int} {a1 : Int} {a2 : List Kind} {N : Nat} {v8 : Int} {v9 : Int} {k2 : (List Choice) → Option (Int × Int)} {fu : Nat} {v15 : Int} {b101'''' : List Choice} (hz : Sf29_i403_18.ok p = true) (h0 : AtH Sf29_i403_18 st (Vf29_i403_18 a0 a1 a2 v8 v9 v15 b101'''') (Bf29_i403_18 a0 a1 a2 v8 v9 v15 b101'''')) (h : ∀ (n : Nat) (v15 : Int) (b101'''' : List Choice), f29_i403_18b (f29_i403_18 a0 a1 a2 N v8 v9 k2 n) a0 a1 a2 N v8 v9 k2 v15 b101'''' = some r → vc c p nid a (St.mk' Sf29_i403_18 (Vf29_i403_18 a0 a1 a2 v8 v9 v15 b101'''') (Bf29_i403_18 a0 a1 a2 v8 v9 v15 b101'''')) (Kloop Sf29_i403_18 (Yf29_i403_18 a0 a1 a2 v8 v9) (Xf29_i403_18 a0 a1 a2 v8 v9) (Jf29_i403_18 a0 a1 a2 N v8 v9 k2 r) Prod.fst (n + 1, v15, b101'''') K)) (hF : f29_i403_18 a0 a1 a2 N v8 v9 k2 fu v15 b101'''' = some r) : vc c p nid (.loop a) st K := by
  refine vc_loop Sf29_i403_18 (Yf29_i403_18 a0 a1 a2 v8 v9) (Xf29_i403_18 a0 a1 a2 v8 v9) (Jf29_i403_18 a0 a1 a2 N v8 v9 k2 r) Prod.fst hz (kheadL (x := (fu, v15, b101'''')) hF h0) ?_
  rintro ⟨_ | n, v15, b101''''⟩ hI
  · cases hI
  · exact h n v15 b101'''' hI
theorem Mf29_i403_18 {r : Int × Int} {a0 : Int} {a1 : Int} {a2 : List Kind} {N : Nat} {v8 : Int} {v9 : Int} {k2 : (List Choice) → Option (Int × Int)} {n : Nat} {v15 : Int} {b101'''' : List Choice} {v15_ : Int} {b101''''_ : List Choice} (hF : f29_i403_18 a0 a1 a2 N v8 v9 k2 n v15 b101'''' = some r) (h0 : AtH Sf29_i403_18 st (Vf29_i403_18 a0 a1 a2 v8 v9 v15 b101'''') (Bf29_i403_18 a0 a1 a2 v8 v9 v15 b101'''')) : Kloop Sf29_i403_18 (Yf29_i403_18 a0 a1 a2 v8 v9) (Xf29_i403_18 a0 a1 a2 v8 v9) (Jf29_i403_18 a0 a1 a2 N v8 v9 k2 r) Prod.fst (n + 1, v15_, b101''''_) K .normal st := by
  exact kback (y := (n, v15, b101'''')) hF (Nat.lt_succ_self n) h0
def f29_i403_c17 (a0 : Int) (a1 : Int) (a2 : List Kind) (N : Nat) (v8 : Int) (v9 : Int) (k2 : (List Choice) → Option (Int × Int)) (b101''' : List Choice) : Option (Int × Int) :=
 f29_i403_18 a0 a1 a2 N v8 v9 k2 N (1 : Int) (b101''')
def Sf29_i403_c17 : Ann := ⟨[0, 1, 2, 7, 8, 9, 13], [404000101, 404000806], [], []⟩
def Vf29_i403_c17 (a0 : Int) (a1 : Int) (a2 : List Kind) (v8 : Int) (v9 : Int) (b101''' : List Choice) : List SV := [.dat (iN a0), .dat (iN a1), .dat (sl_Kind a2), .ptr 404000101 0, .dat (iN v8), .dat (iN v9), .fn 74 [] [.ptr 404000806 0]]
def Bf29_i403_c17 (a0 : Int) (a1 : Int) (a2 : List Kind) (v8 : Int) (v9 : Int) (b101''' : List Choice) : List Blk := [.arr (flatC Choice.d (b101''')), .box [.ptr 404000101 (0 + Int.toNat v8 * 65 + Int.toNat v9 * 5)]]
def Yf29_i403_c17 (a0 : Int) (a1 : Int) (a2 : List Kind) (v8 : Int) (v9 : Int) (y : (List Choice)) : List SV := Vf29_i403_c17 a0 a1 a2 v8 v9 y
def Xf29_i403_c17 (a0 : Int) (a1 : Int) (a2 : List Kind) (v8 : Int) (v9 : Int) (y : (List Choice)) : List Blk := Bf29_i403_c17 a0 a1 a2 v8 v9 y
def Jf29_i403_c17 (a0 : Int) (a1 : Int) (a2 : List Kind) (N : Nat) (v8 : Int) (v9 : Int) (k2 : (List Choice) → Option (Int × Int)) (r : Int × Int) (y : (List Choice)) : Prop := f29_i403_c17 a0 a1 a2 N v8 v9 k2 y = some r
theorem Cf29_i403_c17 {r : Int × Int} {a0 : Int} {a1 : Int} {a2 : List Kind} {N : Nat} {v8 : Int} {v9 : Int} {k2 : (List Choice) → Option (Int × Int)} {g : _ → Option (Int × Int)} (hn : Nat.beq (nid * 1000 + firstRegion b) 404000000017 = true) (hz : Sf29_i403_c17.ok p = true) (h : g (f29_i403_c17 a0 a1 a2 N v8 v9 k2) = some r → vc c p nid a st (KHead Sf29_i403_c17 (Yf29_i403_c17 a0 a1 a2 v8 v9) (Xf29_i403_c17 a0 a1 a2 v8 v9) (Jf29_i403_c17 a0 a1 a2 N v8 v9 k2 r) K)) (h2 : ∀ (b101''' : List Choice), f29_i403_c17 a0 a1 a2 N v8 v9 k2 b101''' = some r → vc c p nid b (St.mk' Sf29_i403_c17 (Vf29_i403_c17 a0 a1 a2 v8 v9 b101''') (Bf29_i403_c17 a0 a1 a2 v8 v9 b101''')) K) (hF : joinK (f29_i403_c17 a0 a1 a2 N v8 v9 k2) g = some r) : vc c p nid (.seq a b) st K :=
  vc_cut Sf29_i403_c17 (Yf29_i403_c17 a0 a1 a2 v8 v9) (Xf29_i403_c17 a0 a1 a2 v8 v9) (Jf29_i403_c17 a0 a1 a2 N v8 v9 k2 r) hz (h hF) fun y hy => h2 y hy
theorem Zf29_i403_c17 {r : Int × Int} {a0 : Int} {a1 : Int} {a2 : List Kind} {N : Nat} {v8 : Int} {v9 : Int} {k2 : (List Choice) → Option (Int × Int)} {b101''' : List Choice} (hF : f29_i403_c17 a0 a1 a2 N v8 v9 k2 b101''' = some r) (h0 : AtH Sf29_i403_c17 st (Vf29_i403_c17 a0 a1 a2 v8 v9 b101''') (Bf29_i403_c17 a0 a1 a2 v8 v9 b101''')) : KHead Sf29_i403_c17 (Yf29_i403_c17 a0 a1 a2 v8 v9) (Xf29_i403_c17 a0 a1 a2 v8 v9) (Jf29_i403_c17 a0 a1 a2 N v8 v9 k2 r) K .normal st := by
  exact khead (I := (Jf29_i403_c17 a0 a1 a2 N v8 v9 k2 r)) (x := (b101''')) hF h0
def f29_i403_14b (r14 : Int → (List Choice) → Option (Int × Int)) (a0 : Int) (a1 : Int) (a2 : List Kind) (N : Nat) (v8 : Int) (v9 : Int) (k3 : (List Choice) → Option (Int × Int)) (v14 : Int) (b101''' : List Choice) : Option (Int × Int) :=
 bif decide (v14 < v8) then ((chkI 13 v14).bind fun _ =>
 (chkI 13 v9).bind fun _ =>
 (ixN (b101''') (Int.toNat v14 * 13 + Int.toNat v9)).bind fun x8 =>
 (chkI 13 (W (v8 - v14))).bind fun _ =>
 (chkI 13 v9).bind fun _ =>
 (ixN (b101''') (Int.toNat (W (v8 - v14)) * 13 + Int.toNat v9)).bind fun x9 =>
 (ixN (b101''') (Int.toNat v8 * 13 + Int.toNat v9)).bind fun x10 =>
 (f75 N (Choice.mk (W (x8.worth + x9.worth)) (W (x8.labels + x9.labels)) false (Cut.mk true v14)) x10).bind fun x11 =>
 bif x11 then ((setN (b101''') (Int.toNat v8 * 13 + Int.toNat v9) (Choice.mk (W (x8.worth + x9.worth)) (W (x8.labels + x9.labels)) false (Cut.mk true v14))).bind fun x12 =>
 r14 (W (v14 + (1 : Int))) x12)
 else (r14 (W (v14 + (1 : Int))) (b101''')))
 else (k3 (b101'''))
def f29_i403_14 (a0 : Int) (a1 : Int) (a2 : List Kind) (N : Nat) (v8 : Int) (v9 : Int) (k3 : (List Choice) → Option (Int × Int)) : Nat → Int → (List Choice) → Option (Int × Int)
  | 0, _, _ => none
  | n + 1, v14, b101''' => f29_i403_14b (f29_i403_14 a0 a1 a2 N v8 v9 k3 n) a0 a1 a2 N v8 v9 k3 v14 b101'''
def Sf29_i403_14 : Ann := ⟨[0, 1, 2, 7, 8, 9, 13, 14], [404000101, 404000806], [], []⟩
def Vf29_i403_14 (a0 : Int) (a1 : Int) (a2 : List Kind) (v8 : Int) (v9 : Int) (v14 : Int) (b101''' : List Choice) : List SV := [.dat (iN a0), .dat (iN a1), .dat (sl_Kind a2), .ptr 404000101 0, .dat (iN v8), .dat (iN v9), .fn 74 [] [.ptr 404000806 0], .dat (iN v14)]
def Bf29_i403_14 (a0 : Int) (a1 : Int) (a2 : List Kind) (v8 : Int) (v9 : Int) (v14 : Int) (b101''' : List Choice) : List Blk := [.arr (flatC Choice.d (b101''')), .box [.ptr 404000101 (0 + Int.toNat v8 * 65 + Int.toNat v9 * 5)]]
def Yf29_i403_14 (a0 : Int) (a1 : Int) (a2 : List Kind) (v8 : Int) (v9 : Int) (y : Nat × Int × (List Choice)) : List SV := Vf29_i403_14 a0 a1 a2 v8 v9 y.2.1 y.2.2
def Xf29_i403_14 (a0 : Int) (a1 : Int) (a2 : List Kind) (v8 : Int) (v9 : Int) (y : Nat × Int × (List Choice)) : List Blk := Bf29_i403_14 a0 a1 a2 v8 v9 y.2.1 y.2.2
def Jf29_i403_14 (a0 : Int) (a1 : Int) (a2 : List Kind) (N : Nat) (v8 : Int) (v9 : Int) (k3 : (List Choice) → Option (Int × Int)) (r : Int × Int) (y : Nat × Int × (List Choice)) : Prop := f29_i403_14 a0 a1 a2 N v8 v9 k3 y.1 y.2.1 y.2.2 = some r
theorem Lf29_i403_14 {r : Int × Int} {a0 : Int} {a1 : Int} {a2 : List Kind} {N : Nat} {v8 : Int} {v9 : Int} {k3 : (List Choice) → Option (Int × Int)} {fu : Nat} {v14 : Int} {b101''' : List Choice} (hz : Sf29_i403_14.ok p = true) (h0 : AtH Sf29_i403_14 st (Vf29_i403_14 a0 a1 a2 v8 v9 v14 b101''') (Bf29_i403_14 a0 a1 a2 v8 v9 v14 b101''')) (h : ∀ (n : Nat) (v14 : Int) (b101''' : List Choice), f29_i403_14b (f29_i403_14 a0 a1 a2 N v8 v9 k3 n) a0 a1 a2 N v8 v9 k3 v14 b101''' = some r → vc c p nid a (St.mk' Sf29_i403_14 (Vf29_i403_14 a0 a1 a2 v8 v9 v14 b101''') (Bf29_i403_14 a0 a1 a2 v8 v9 v14 b101''')) (Kloop Sf29_i403_14 (Yf29_i403_14 a0 a1 a2 v8 v9) (Xf29_i403_14 a0 a1 a2 v8 v9) (Jf29_i403_14 a0 a1 a2 N v8 v9 k3 r) Prod.fst (n + 1, v14, b101''') K)) (hF : f29_i403_14 a0 a1 a2 N v8 v9 k3 fu v14 b101''' = some r) : vc c p nid (.loop a) st K := by
  refine vc_loop Sf29_i403_14 (Yf29_i403_14 a0 a1 a2 v8 v9) (Xf29_i403_14 a0 a1 a2 v8 v9) (Jf29_i403_14 a0 a1 a2 N v8 v9 k3 r) Prod.fst hz (kheadL (x := (fu, v14, b101''')) hF h0) ?_
  rintro ⟨_ | n, v14, b101'''⟩ hI
  · cases hI
  · exact h n v14 b101''' hI
theorem Mf29_i403_14 {r : Int × Int} {a0 : Int} {a1 : Int} {a2 : List Kind} {N : Nat} {v8 : Int} {v9 : Int} {k3 : (List Choice) → Option (Int × Int)} {n : Nat} {v14 : Int} {b101''' : List Choice} {v14_ : Int} {b101'''_ : List Choice} (hF : f29_i403_14 a0 a1 a2 N v8 v9 k3 n v14 b101''' = some r) (h0 : AtH Sf29_i403_14 st (Vf29_i403_14 a0 a1 a2 v8 v9 v14 b101''') (Bf29_i403_14 a0 a1 a2 v8 v9 v14 b101''')) : Kloop Sf29_i403_14 (Yf29_i403_14 a0 a1 a2 v8 v9) (Xf29_i403_14 a0 a1 a2 v8 v9) (Jf29_i403_14 a0 a1 a2 N v8 v9 k3 r) Prod.fst (n + 1, v14_, b101'''_) K .normal st := by
  exact kback (y := (n, v14, b101''')) hF (Nat.lt_succ_self n) h0
def f29_i403_c12 (a0 : Int) (a1 : Int) (a2 : List Kind) (N : Nat) (v8 : Int) (v9 : Int) (k2 : (List Choice) → Option (Int × Int)) (b101'' : List Choice) : Option (Int × Int) :=
 joinK (f29_i403_c17 a0 a1 a2 N v8 v9 k2) fun k3 =>
 f29_i403_14 a0 a1 a2 N v8 v9 k3 N (1 : Int) (b101'')
def Sf29_i403_c12 : Ann := ⟨[0, 1, 2, 7, 8, 9, 10], [404000101, 404000806], [], []⟩
def Vf29_i403_c12 (a0 : Int) (a1 : Int) (a2 : List Kind) (v8 : Int) (v9 : Int) (b101'' : List Choice) : List SV := [.dat (iN a0), .dat (iN a1), .dat (sl_Kind a2), .ptr 404000101 0, .dat (iN v8), .dat (iN v9), .ptr 404000806 0]
def Bf29_i403_c12 (a0 : Int) (a1 : Int) (a2 : List Kind) (v8 : Int) (v9 : Int) (b101'' : List Choice) : List Blk := [.arr (flatC Choice.d (b101'')), .box [.ptr 404000101 (0 + Int.toNat v8 * 65 + Int.toNat v9 * 5)]]
def Yf29_i403_c12 (a0 : Int) (a1 : Int) (a2 : List Kind) (v8 : Int) (v9 : Int) (y : (List Choice)) : List SV := Vf29_i403_c12 a0 a1 a2 v8 v9 y
def Xf29_i403_c12 (a0 : Int) (a1 : Int) (a2 : List Kind) (v8 : Int) (v9 : Int) (y : (List Choice)) : List Blk := Bf29_i403_c12 a0 a1 a2 v8 v9 y
def Jf29_i403_c12 (a0 : Int) (a1 : Int) (a2 : List Kind) (N : Nat) (v8 : Int) (v9 : Int) (k2 : (List Choice) → Option (Int × Int)) (r : Int × Int) (y : (List Choice)) : Prop := f29_i403_c12 a0 a1 a2 N v8 v9 k2 y = some r
theorem Cf29_i403_c12 {r : Int × Int} {a0 : Int} {a1 : Int} {a2 : List Kind} {N : Nat} {v8 : Int} {v9 : Int} {k2 : (List Choice) → Option (Int × Int)} {g : _ → Option (Int × Int)} (hn : Nat.beq (nid * 1000 + firstRegion b) 404000000012 = true) (hz : Sf29_i403_c12.ok p = true) (h : g (f29_i403_c12 a0 a1 a2 N v8 v9 k2) = some r → vc c p nid a st (KHead Sf29_i403_c12 (Yf29_i403_c12 a0 a1 a2 v8 v9) (Xf29_i403_c12 a0 a1 a2 v8 v9) (Jf29_i403_c12 a0 a1 a2 N v8 v9 k2 r) K)) (h2 : ∀ (b101'' : List Choice), f29_i403_c12 a0 a1 a2 N v8 v9 k2 b101'' = some r → vc c p nid b (St.mk' Sf29_i403_c12 (Vf29_i403_c12 a0 a1 a2 v8 v9 b101'') (Bf29_i403_c12 a0 a1 a2 v8 v9 b101'')) K) (hF : joinK (f29_i403_c12 a0 a1 a2 N v8 v9 k2) g = some r) : vc c p nid (.seq a b) st K :=
  vc_cut Sf29_i403_c12 (Yf29_i403_c12 a0 a1 a2 v8 v9) (Xf29_i403_c12 a0 a1 a2 v8 v9) (Jf29_i403_c12 a0 a1 a2 N v8 v9 k2 r) hz (h hF) fun y hy => h2 y hy
theorem Zf29_i403_c12 {r : Int × Int} {a0 : Int} {a1 : Int} {a2 : List Kind} {N : Nat} {v8 : Int} {v9 : Int} {k2 : (List Choice) → Option (Int × Int)} {b101'' : List Choice} (hF : f29_i403_c12 a0 a1 a2 N v8 v9 k2 b101'' = some r) (h0 : AtH Sf29_i403_c12 st (Vf29_i403_c12 a0 a1 a2 v8 v9 b101'') (Bf29_i403_c12 a0 a1 a2 v8 v9 b101'')) : KHead Sf29_i403_c12 (Yf29_i403_c12 a0 a1 a2 v8 v9) (Xf29_i403_c12 a0 a1 a2 v8 v9) (Jf29_i403_c12 a0 a1 a2 N v8 v9 k2 r) K .normal st := by
  exact khead (I := (Jf29_i403_c12 a0 a1 a2 N v8 v9 k2 r)) (x := (b101'')) hF h0
def f29_i403_6b (r6 : Int → (List Choice) → Option (Int × Int)) (a0 : Int) (a1 : Int) (a2 : List Kind) (N : Nat) (v8 : Int) (k1 : (List Choice) → Option (Int × Int)) (v9 : Int) (b101' : List Choice) : Option (Int × Int) :=
 bif decide (v9 ≤ a1) then (joinK (f29_i403_c7 a0 a1 a2 v8 v9 r6) fun k2 =>
 (chkI 13 v8).bind fun _ =>
 (chkI 13 v9).bind fun _ =>
 joinK (f29_i403_c12 a0 a1 a2 N v8 v9 k2) fun k4 =>
 (f49 N v8 v9 a2).bind fun x13 =>
 bif decide ((0 : Int) < x13.1) then ((setN (b101') (Int.toNat v8 * 13 + Int.toNat v9) (Choice.mk x13.1 (1 : Int) true (Cut.mk false (0 : Int)))).bind fun x14 =>
 k4 x14)
 else (k4 (b101')))
 else (k1 (b101'))
def f29_i403_6 (a0 : Int) (a1 : Int) (a2 : List Kind) (N : Nat) (v8 : Int) (k1 : (List Choice) → Option (Int × Int)) : Nat → Int → (List Choice) → Option (Int × Int)
  | 0, _, _ => none
  | n + 1, v9, b101' => f29_i403_6b (f29_i403_6 a0 a1 a2 N v8 k1 n) a0 a1 a2 N v8 k1 v9 b101'
def Sf29_i403_6 : Ann := ⟨[0, 1, 2, 7, 8, 9], [404000101], [], []⟩
def Vf29_i403_6 (a0 : Int) (a1 : Int) (a2 : List Kind) (v8 : Int) (v9 : Int) (b101' : List Choice) : List SV := [.dat (iN a0), .dat (iN a1), .dat (sl_Kind a2), .ptr 404000101 0, .dat (iN v8), .dat (iN v9)]
def Bf29_i403_6 (a0 : Int) (a1 : Int) (a2 : List Kind) (v8 : Int) (v9 : Int) (b101' : List Choice) : List Blk := [.arr (flatC Choice.d (b101'))]
def Yf29_i403_6 (a0 : Int) (a1 : Int) (a2 : List Kind) (v8 : Int) (y : Nat × Int × (List Choice)) : List SV := Vf29_i403_6 a0 a1 a2 v8 y.2.1 y.2.2
def Xf29_i403_6 (a0 : Int) (a1 : Int) (a2 : List Kind) (v8 : Int) (y : Nat × Int × (List Choice)) : List Blk := Bf29_i403_6 a0 a1 a2 v8 y.2.1 y.2.2
def Jf29_i403_6 (a0 : Int) (a1 : Int) (a2 : List Kind) (N : Nat) (v8 : Int) (k1 : (List Choice) → Option (Int × Int)) (r : Int × Int) (y : Nat × Int × (List Choice)) : Prop := f29_i403_6 a0 a1 a2 N v8 k1 y.1 y.2.1 y.2.2 = some r
theorem Lf29_i403_6 {r : Int × Int} {a0 : Int} {a1 : Int} {a2 : List Kind} {N : Nat} {v8 : Int} {k1 : (List Choice) → Option (Int × Int)} {fu : Nat} {v9 : Int} {b101' : List Choice} (hz : Sf29_i403_6.ok p = true) (h0 : AtH Sf29_i403_6 st (Vf29_i403_6 a0 a1 a2 v8 v9 b101') (Bf29_i403_6 a0 a1 a2 v8 v9 b101')) (h : ∀ (n : Nat) (v9 : Int) (b101' : List Choice), f29_i403_6b (f29_i403_6 a0 a1 a2 N v8 k1 n) a0 a1 a2 N v8 k1 v9 b101' = some r → vc c p nid a (St.mk' Sf29_i403_6 (Vf29_i403_6 a0 a1 a2 v8 v9 b101') (Bf29_i403_6 a0 a1 a2 v8 v9 b101')) (Kloop Sf29_i403_6 (Yf29_i403_6 a0 a1 a2 v8) (Xf29_i403_6 a0 a1 a2 v8) (Jf29_i403_6 a0 a1 a2 N v8 k1 r) Prod.fst (n + 1, v9, b101') K)) (hF : f29_i403_6 a0 a1 a2 N v8 k1 fu v9 b101' = some r) : vc c p nid (.loop a) st K := by
  refine vc_loop Sf29_i403_6 (Yf29_i403_6 a0 a1 a2 v8) (Xf29_i403_6 a0 a1 a2 v8) (Jf29_i403_6 a0 a1 a2 N v8 k1 r) Prod.fst hz (kheadL (x := (fu, v9, b101')) hF h0) ?_
  rintro ⟨_ | n, v9, b101'⟩ hI
  · cases hI
  · exact h n v9 b101' hI
theorem Mf29_i403_6 {r : Int × Int} {a0 : Int} {a1 : Int} {a2 : List Kind} {N : Nat} {v8 : Int} {k1 : (List Choice) → Option (Int × Int)} {n : Nat} {v9 : Int} {b101' : List Choice} {v9_ : Int} {b101'_ : List Choice} (hF : f29_i403_6 a0 a1 a2 N v8 k1 n v9 b101' = some r) (h0 : AtH Sf29_i403_6 st (Vf29_i403_6 a0 a1 a2 v8 v9 b101') (Bf29_i403_6 a0 a1 a2 v8 v9 b101')) : Kloop Sf29_i403_6 (Yf29_i403_6 a0 a1 a2 v8) (Xf29_i403_6 a0 a1 a2 v8) (Jf29_i403_6 a0 a1 a2 N v8 k1 r) Prod.fst (n + 1, v9_, b101'_) K .normal st := by
  exact kback (y := (n, v9, b101')) hF (Nat.lt_succ_self n) h0
def f29_i403_3b (r3 : Int → (List Choice) → Option (Int × Int)) (a0 : Int) (a1 : Int) (a2 : List Kind) (N : Nat) (k0 : (List Choice) → Option (Int × Int)) (v8 : Int) (b101 : List Choice) : Option (Int × Int) :=
 bif decide (v8 ≤ a0) then (joinK (f29_i403_c4 a0 a1 a2 v8 r3) fun k1 =>
 f29_i403_6 a0 a1 a2 N v8 k1 N (1 : Int) b101)
 else (k0 b101)
def f29_i403_3 (a0 : Int) (a1 : Int) (a2 : List Kind) (N : Nat) (k0 : (List Choice) → Option (Int × Int)) : Nat → Int → (List Choice) → Option (Int × Int)
  | 0, _, _ => none
  | n + 1, v8, b101 => f29_i403_3b (f29_i403_3 a0 a1 a2 N k0 n) a0 a1 a2 N k0 v8 b101
def Sf29_i403_3 : Ann := ⟨[0, 1, 2, 7, 8], [404000101], [], []⟩
def Vf29_i403_3 (a0 : Int) (a1 : Int) (a2 : List Kind) (v8 : Int) (b101 : List Choice) : List SV := [.dat (iN a0), .dat (iN a1), .dat (sl_Kind a2), .ptr 404000101 0, .dat (iN v8)]
def Bf29_i403_3 (a0 : Int) (a1 : Int) (a2 : List Kind) (v8 : Int) (b101 : List Choice) : List Blk := [.arr (flatC Choice.d b101)]
def Yf29_i403_3 (a0 : Int) (a1 : Int) (a2 : List Kind) (y : Nat × Int × (List Choice)) : List SV := Vf29_i403_3 a0 a1 a2 y.2.1 y.2.2
def Xf29_i403_3 (a0 : Int) (a1 : Int) (a2 : List Kind) (y : Nat × Int × (List Choice)) : List Blk := Bf29_i403_3 a0 a1 a2 y.2.1 y.2.2
def Jf29_i403_3 (a0 : Int) (a1 : Int) (a2 : List Kind) (N : Nat) (k0 : (List Choice) → Option (Int × Int)) (r : Int × Int) (y : Nat × Int × (List Choice)) : Prop := f29_i403_3 a0 a1 a2 N k0 y.1 y.2.1 y.2.2 = some r
theorem Lf29_i403_3 {r : Int × Int} {a0 : Int} {a1 : Int} {a2 : List Kind} {N : Nat} {k0 : (List Choice) → Option (Int × Int)} {fu : Nat} {v8 : Int} {b101 : List Choice} (hz : Sf29_i403_3.ok p = true) (h0 : AtH Sf29_i403_3 st (Vf29_i403_3 a0 a1 a2 v8 b101) (Bf29_i403_3 a0 a1 a2 v8 b101)) (h : ∀ (n : Nat) (v8 : Int) (b101 : List Choice), f29_i403_3b (f29_i403_3 a0 a1 a2 N k0 n) a0 a1 a2 N k0 v8 b101 = some r → vc c p nid a (St.mk' Sf29_i403_3 (Vf29_i403_3 a0 a1 a2 v8 b101) (Bf29_i403_3 a0 a1 a2 v8 b101)) (Kloop Sf29_i403_3 (Yf29_i403_3 a0 a1 a2) (Xf29_i403_3 a0 a1 a2) (Jf29_i403_3 a0 a1 a2 N k0 r) Prod.fst (n + 1, v8, b101) K)) (hF : f29_i403_3 a0 a1 a2 N k0 fu v8 b101 = some r) : vc c p nid (.loop a) st K := by
  refine vc_loop Sf29_i403_3 (Yf29_i403_3 a0 a1 a2) (Xf29_i403_3 a0 a1 a2) (Jf29_i403_3 a0 a1 a2 N k0 r) Prod.fst hz (kheadL (x := (fu, v8, b101)) hF h0) ?_
  rintro ⟨_ | n, v8, b101⟩ hI
  · cases hI
  · exact h n v8 b101 hI
theorem Mf29_i403_3 {r : Int × Int} {a0 : Int} {a1 : Int} {a2 : List Kind} {N : Nat} {k0 : (List Choice) → Option (Int × Int)} {n : Nat} {v8 : Int} {b101 : List Choice} {v8_ : Int} {b101_ : List Choice} (hF : f29_i403_3 a0 a1 a2 N k0 n v8 b101 = some r) (h0 : AtH Sf29_i403_3 st (Vf29_i403_3 a0 a1 a2 v8 b101) (Bf29_i403_3 a0 a1 a2 v8 b101)) : Kloop Sf29_i403_3 (Yf29_i403_3 a0 a1 a2) (Xf29_i403_3 a0 a1 a2) (Jf29_i403_3 a0 a1 a2 N k0 r) Prod.fst (n + 1, v8_, b101_) K .normal st := by
  exact kback (y := (n, v8, b101)) hF (Nat.lt_succ_self n) h0
def f29 (N : Nat) (a0 : Int) (a1 : Int) (a2 : List Kind) : Option (Int × Int) :=
 (f66 N a0 a1 a2).bind fun x1 =>
 bif decide (¬ x1 = (0 : Int)) then (some ((0 : Int), x1))
 else (joinK (f29_i403_c21 a0 a1) fun k0 =>
 f29_i403_3 a0 a1 a2 N k0 N (1 : Int) (List.replicate 169 (Choice.mk (0 : Int) (0 : Int) false (Cut.mk false (0 : Int)))))
def G29 (ds : List D) (d : D) : Prop := ∃ (N : Nat) (a0 : Int) (a1 : Int) (a2 : List Kind) (r : Int × Int), ds = [iN a0, iN a1, sl_Kind a2] ∧ f29 N a0 a1 a2 = some r ∧ d = .tup [iN r.1, iN r.2]
theorem G29.step {N : Nat} {a0 : Int} {a1 : Int} {a2 : List Kind} {ρ : Type} {A : (Int × Int) → Option ρ} {q : ρ} {ds : List D} {K : D → Prop} (hd : ds = [iN a0, iN a1, sl_Kind a2]) (h : ∀ r, A r = some q → K (.tup [iN r.1, iN r.2])) (hF : (f29 N a0 a1 a2).bind A = some q) : ∃ d, G29 ds d ∧ K d := by
  obtain ⟨r, hr, hA⟩ := bind_some hF
  exact ⟨_, ⟨N, a0, a1, a2, r, hd, hr, rfl⟩, h r hA⟩
set_option maxRecDepth 20000 in
set_option maxHeartbeats 4000000 in
theorem P29 : PureOK Try.prog 29 G29 := by
  refine pure_of_vc (c := mkCtx tyTree [(67, false, inlPg (mkCtx tyTree [(74, false, inlPg (mkCtx tyTree [(75, true, purePg [[0, 0, 0, 0, 0], [0, 0, 0, 0, 0]] G75)]) Try.f74), (49, true, purePg [[0], [0], [3]] G49)]) Try.f67), (66, true, purePg [[0], [0], [3]] G66)]) rfl tyOK (ctx_eff (callable Try.func67 rfl rfl) (CallOK.inl rfl tyOK (ctx_eff (callable Try.func74 rfl rfl) (CallOK.inl rfl tyOK (ctx_cons (callable Try.func75 rfl rfl) P75 (ctx_nil)) Try.func74 (by kernel_rfl)) (ctx_cons (callable Try.func49 rfl rfl) P49 (ctx_nil))) Try.func67 (by kernel_rfl)) (ctx_cons (callable Try.func66 rfl rfl) P66 (ctx_nil))) [[0], [0]] 3 Try.func29 rfl rfl (by decide) (by kernel_rfl) ?_
  rintro ds d ⟨N, a0, a1, a2, r, rfl, hF, rfl⟩ hok
  clear hok
  refine ⟨rfl, ?_⟩
  show vc _ _ _ _ ⟨[(0, .dat (iN a0)), (1, .dat (iN a1)), (2, .dat (sl_Kind a2))], []⟩ _
  unfold f29 at hF
  repeat' (first
    | ((with_reducible refine q0 _ _ ?_); clear Q q0 q1 q2)
    | ((with_reducible refine q1 _ _ _ _ ?_); clear Q q0 q1 q2)
    | ((with_reducible refine q2 _ _ _ ?_); clear Q q0 q1 q2)
    | ((with_reducible refine seq_op ?hx (fun Q q0 q1 q2 => ?_)); (case hx => exact rfl); conv => whnf)
    | ((with_reducible refine draw_op ?hx (fun Q q0 q1 q2 => ?_)); (case hx => exact rfl); conv => whnf)
    | ((with_reducible refine seq_op0 ?hx (fun Q q0 q1 q2 => ?_)); (case hx => exact rfl); conv => whnf)
    | ((with_reducible refine draw_op0 ?hx (fun Q q0 q1 q2 => ?_)); (case hx => exact rfl); conv => whnf)
    | ((with_reducible refine cond_id ?_); (first | ((refine condKT rfl ?hy ?_); (case hy => first | assumption | exact notT (by assumption) | exact rfl)) | ((refine condKF rfl ?hy ?_); (case hy => first | assumption | exact notF (by assumption) | exact rfl)) | (revert hF; (with_reducible refine condF ?hx ?_ ?_); (case hx => exact rfl); all_goals (intro hc hF))))
    | ((with_reducible refine seq_nil ?_); (first | ((with_reducible refine hR _ ?_); clear R hR) | ((with_reducible refine hL _ ?_); clear L hL)))
    | ((with_reducible refine draw_nil ?_); (with_reducible refine hR _ _ ?hx ?_); (case hx => kernel_rfl); (first | clear R hR | clear hR))
    | ((with_reducible refine int_step ?_); conv => whnf)
    | with_reducible refine vc_block ?_
    | with_reducible refine vc_skip ?_
    | with_reducible refine vc_ret ?_
    | with_reducible refine vc_exit ?_
    | ((with_reducible refine vc_seqN [404000000021, 404000000004, 404000000007, 404000000017, 404000000012] ?hx ?_); (case hx => exact rfl))
    | (with_reducible refine vc_region (fun R hR => ?_))
    | ((with_reducible refine vc_draw ?hx (fun R hR => ?_)); (case hx => exact rfl))
    | ((with_reducible refine vc_tail (n := 4) ?hx ?hn rfl rfl (fun R L hL hR => ?_)); (case hx => kernel_rfl); (case hn => exact rfl); simp only [List.take_succ_cons, List.take_zero, List.drop_succ_cons, List.drop_zero] at hR ⊢)
    | ((with_reducible refine vc_tail (n := 19) ?hx ?hn rfl rfl (fun R L hL hR => ?_)); (case hx => kernel_rfl); (case hn => exact rfl); simp only [List.take_succ_cons, List.take_zero, List.drop_succ_cons, List.drop_zero] at hR ⊢)
    | (revert hF; (refine Cf29_i403_c21 rfl rfl ?_ ?_); (intro hF); rotate_left; (intro b101 hF; unfold f29_i403_c21 at hF); rotate_right)
    | exact Zf29_i403_c21 hF ⟨_, rfl, rfl, rfl, rfl⟩
    | (revert hF; (refine Cf29_i403_c4 rfl rfl ?_ ?_); (intro hF); rotate_left; (intro b101' hF; unfold f29_i403_c4 at hF); rotate_right)
    | exact Zf29_i403_c4 hF ⟨_, rfl, rfl, rfl, rfl⟩
    | (revert hF; (refine Cf29_i403_c7 rfl rfl ?_ ?_); (intro hF); rotate_left; (intro b101'' hF; unfold f29_i403_c7 at hF); rotate_right)
    | exact Zf29_i403_c7 hF ⟨_, rfl, rfl, rfl, rfl⟩
    | (revert hF; (refine Lf29_i403_18 rfl ⟨_, rfl, rfl, rfl, rfl⟩ ?_); intro n v15 b101'''' hF; unfold f29_i403_18b at hF)
    | exact Mf29_i403_18 hF ⟨_, rfl, rfl, rfl, rfl⟩
    | (revert hF; (refine Cf29_i403_c17 rfl rfl ?_ ?_); (intro hF); rotate_left; (intro b101''' hF; unfold f29_i403_c17 at hF); rotate_right)
    | exact Zf29_i403_c17 hF ⟨_, rfl, rfl, rfl, rfl⟩
    | (revert hF; (refine Lf29_i403_14 rfl ⟨_, rfl, rfl, rfl, rfl⟩ ?_); intro n v14 b101''' hF; unfold f29_i403_14b at hF)
    | exact Mf29_i403_14 hF ⟨_, rfl, rfl, rfl, rfl⟩
    | (revert hF; (refine Cf29_i403_c12 rfl rfl ?_ ?_); (intro hF); rotate_left; (intro b101'' hF; unfold f29_i403_c12 at hF); rotate_right)
    | exact Zf29_i403_c12 hF ⟨_, rfl, rfl, rfl, rfl⟩
    | (revert hF; (refine Lf29_i403_6 rfl ⟨_, rfl, rfl, rfl, rfl⟩ ?_); intro n v9 b101' hF; unfold f29_i403_6b at hF)
    | exact Mf29_i403_6 hF ⟨_, rfl, rfl, rfl, rfl⟩
    | (revert hF; (refine Lf29_i403_3 rfl ⟨_, rfl, rfl, rfl, rfl⟩ ?_); intro n v8 b101 hF; unfold f29_i403_3b at hF)
    | exact Mf29_i403_3 hF ⟨_, rfl, rfl, rfl, rfl⟩
    | (revert hF; (with_reducible refine G49.step ?hx ?_); (case hx => exact rfl); intro v hF; conv => whnf)
    | (revert hF; (with_reducible refine G66.step ?hx ?_); (case hx => exact rfl); intro v hF; conv => whnf)
    | (revert hF; (with_reducible refine G75.step ?hx ?_); (case hx => exact rfl); intro v hF; conv => whnf)
    | ((with_reducible refine zeroA_step (flatC Choice.d (List.replicate 169 (Choice.mk (0 : Int) (0 : Int) false (Cut.mk false (0 : Int))))) ?hx ?_); (case hx => exact ⟨by kernel_rfl, by kernel_rfl⟩); conv => whnf)
    | ((with_reducible refine zeroD_step (flatC Choice.d (List.replicate 169 (Choice.mk (0 : Int) (0 : Int) false (Cut.mk false (0 : Int))))) ?hx ?_); (case hx => (unfold zeroD; kernel_rfl)); conv => whnf)
    | ((with_reducible refine chkI_go hF ?_); (clear hF; intro hF; conv => whnf))
    | ((with_reducible have hG := ixN_fact hF); clear hF; (first | (refine ixN_one hG (by (try simp only [W]); omega) (fun x hF => ?_)) | (refine ixN_agg hG (fun _ => rfl) (by (try simp only [W]); omega) (fun x hF => ?_)) | (refine ixN_field (s := 5) (f := 0) (fun x => iN x.worth) hG (fun _ => rfl) (fun _ => rfl) (by (try simp only [W]); omega) (fun x hF => ?_))); clear hG; conv => whnf)
    | ((with_reducible have hG := setN_fact hF); clear hF; (first | (refine setN_one hG (by (try simp only [W]); omega) rfl rfl (fun q hF => ?_)) | (refine setN_agg hG (fun _ => rfl) (by (try simp only [W]); omega) rfl rfl (fun q hF => ?_))); clear hG; conv => whnf)
    | with_reducible refine k_seq_ret ?_
    | with_reducible refine k_seq_exit ?_
    | with_reducible refine k_blk ?_
    | with_reducible refine k_blk_ret ?_
    | with_reducible refine k_blk_here ?_
    | ((with_reducible refine k_blk_out ?hx ?_); (case hx => exact rfl))
    | with_reducible refine k_loop_ret ?_
    | with_reducible refine k_loop_exit ?_
    | ((refine row_all ?hn ?_); (case hn => first | exact rfl | (simp; done) | (simp; omega)); conv => whnf)
    | ((with_reducible refine le_step ?hn ?_); (case hn => first | exact rfl | assumption | omega); conv => whnf)
    | ((refine ⟨?hx, ?_⟩); (case hx => exact ⟨rfl, Nat.le_of_ble_eq_true rfl, rfl⟩); conv => whnf)
    | ((with_reducible refine ex_step ?_); conv => whnf)
    | ((with_reducible refine both_T ?hx ?_); (case hx => first | exact rfl | assumption | exact notT (by assumption)); conv => whnf)
    | ((with_reducible refine both_F ?hx ?_); (case hx => first | exact rfl | assumption | exact notF (by assumption)); conv => whnf)
    | (revert hF; (with_reducible refine ite_step ?_ ?_) <;> (intro hc hF; conv => whnf))
    | ((with_reducible refine vc_condT ?hx ?_); (case hx => exact rfl))
    | ((with_reducible refine vc_condF ?hx ?_); (case hx => exact rfl))
    | (show retD _ _ _ _ _ _; conv => whnf)
    | ((refine inl_step ?ha ?hb ?hc rfl ?_); (case ha => exact rfl); (case hb => omega); (case hc => exact Nat.le_of_ble_eq_true rfl))
    | (show Kinl _ _ _ _ _ _ _; conv => whnf)
    | ((with_reducible refine kinl_step ?ha ?hb ?_); (case ha => exact rfl); (case hb => exact rfl); conv => whnf)
    | ((refine ⟨?hx, trivial⟩); (case hx => (cases hF; exact rfl)))
    | ((refine ⟨?hx, ?_⟩); (case hx => decide); conv => whnf)
    | ((with_reducible refine k_seq ?_))
    | (have hF : (none : Option _) = some _ := hF; cases hF))
end
end Go.Vc
namespace Go.Vc
open Go.Proofs
set_option linter.unusedVariables false
set_option linter.unnecessarySimpa false
set_option linter.unusedSimpArgs false
section
variable {c : Ctx} {p nid : Nat} {a b : Code} {st : St} {K : Ex → St → Prop}
/- f68: tusche/cut.Lay$1 -/
def f68b (self : Label → Int → Int → (List Choice) → (List Label) → Option ((List Label))) (N : Nat) (s0 : Label) (s1 : Int) (s2 : Int) (s3 : List Choice) (s4 : List Label) : Option ((List Label)) :=
 (chkI 13 s0.W).bind fun _ =>
 (chkI 13 s0.H).bind fun _ =>
 (ixN s3 (Int.toNat s0.W * 13 + Int.toNat s0.H)).bind fun x1 =>
 bif x1.sold then ((app 32 s4 [s0]).bind fun x2 =>
 some (x2))
 else (bif x1.cut.Up then ((self (Label.mk s0.X s0.Y x1.cut.At s0.H) s1 s2 s3 s4).bind fun x3 =>
 (self (Label.mk (W (s0.X + x1.cut.At)) s0.Y (W (s0.W - x1.cut.At)) s0.H) s1 s2 s3 x3).bind fun x4 =>
 some (x4))
 else (bif decide ((0 : Int) < x1.cut.At) then ((self (Label.mk s0.X s0.Y s0.W x1.cut.At) s1 s2 s3 s4).bind fun x5 =>
 (self (Label.mk s0.X (W (s0.Y + x1.cut.At)) s0.W (W (s0.H - x1.cut.At))) s1 s2 s3 x5).bind fun x6 =>
 some (x6))
 else (some (s4))))
def f68 : Nat → Label → Int → Int → (List Choice) → (List Label) → Option ((List Label))
  | 0, _, _, _, _, _ => none
  | N + 1, s0, s1, s2, s3, s4 => f68b (f68 N) N s0 s1 s2 s3 s4
def Af68 (s0 : Label) (s1 : Int) (s2 : Int) (s3 : List Choice) (s4 : List Label) : List SV := [.dat (.agg [iN s0.X, iN s0.Y, iN s0.W, iN s0.H]), .ptr 0 0, .ptr 1 0, .ptr 2 0]
def Bf68 (s0 : Label) (s1 : Int) (s2 : Int) (s3 : List Choice) (s4 : List Label) : List Blk := [.box [.ptr 3 0], .box [.dat (iN s1), .dat (iN s2), .rs 4 (List.length s4)], .box [.fn 68 [] [.ptr 0 0, .ptr 1 0, .ptr 2 0]], .arr (flatC Choice.d s3), .row 50 4 (List.map Label.d s4)]
def Rf68 (y : (List Label)) : List SV := []
def B1f68 (s0 : Label) (s1 : Int) (s2 : Int) (s3 : List Choice) (s4 : List Label) (y : (List Label)) : List Blk := [.box [.ptr 3 0], .box [.dat (iN s1), .dat (iN s2), .rs 500 (List.length y)], .box [.fn 68 [] [.ptr 0 0, .ptr 1 0, .ptr 2 0]], .arr (flatC Choice.d s3), .dead]
def BZf68 (y : (List Label)) : Blk := .row 50 4 (List.map Label.d y)
def Spf68 : Spec (Label × Int × Int × (List Choice) × (List Label)) ((List Label)) := ⟨5, fun x => Af68 x.1 x.2.1 x.2.2.1 x.2.2.2.1 x.2.2.2.2, fun x => Bf68 x.1 x.2.1 x.2.2.1 x.2.2.2.1 x.2.2.2.2, fun _ y => Rf68 y, fun x y => B1f68 x.1 x.2.1 x.2.2.1 x.2.2.2.1 x.2.2.2.2 y, fun _ y => BZf68 y⟩
def H68 (N : Nat) (x : Label × Int × Int × (List Choice) × (List Label)) (y : (List Label)) : Prop := f68 N x.1 x.2.1 x.2.2.1 x.2.2.2.1 x.2.2.2.2 = some y
def G68 (x : Label × Int × Int × (List Choice) × (List Label)) (y : (List Label)) : Prop := ∃ N, H68 N x y
theorem H68.step {N : Nat} {s0 : Label} {s1 : Int} {s2 : Int} {s3 : List Choice} {s4 : List Label} {ρ : Type} {A : (List Label) → Option ρ} {q : ρ} {xs : List SV} {id : Nat} {m : Nat → Blk} {l : List Loc} {K : Dl → List Loc → Prop} {k0 k1 k2 k3 k4 : Nat} (ha : xs = [.dat (.agg [iN s0.X, iN s0.Y, iN s0.W, iN s0.H]), .ptr k0 0, .ptr k1 0, .ptr k2 0]) (b0 : m k0 = .box [.ptr k3 0]) (b1 : m k1 = .box [.dat (iN s1), .dat (iN s2), .rs k4 (List.length s4)]) (b2 : m k2 = .box [.fn 68 [] [.ptr k0 0, .ptr k1 0, .ptr k2 0]]) (b3 : m k3 = .arr (flatC Choice.d s3)) (b4 : m k4 = .row 50 4 (List.map Label.d s4)) (hu : m id = .unborn) (hn : nodupB [k0, k1, k2, k3, k4] = true) (h : ∀ y, A y = some q → K ⟨.tup [], [(k0, .box [.ptr k3 0]), (k1, .box [.dat (iN s1), .dat (iN s2), .rs id (List.length y)]), (k2, .box [.fn 68 [] [.ptr k0 0, .ptr k1 0, .ptr k2 0]]), (k3, .arr (flatC Choice.d s3)), (k4, .dead), (id, .row 50 4 (List.map Label.d y))]⟩ l) (hF : (f68 N s0 s1 s2 s3 s4).bind A = some q) : effPg Spf68 (H68 N) xs id (fun _ => SV.no) m l K := by
  obtain ⟨y, hy, hA⟩ := bind_some hF
  exact eff_step [k0, k1, k2, k3, k4] (s0, s1, s2, s3, s4) y _ hy rfl hn ha (by simp only [List.map_cons, List.map_nil, b0, b1, b2, b3, b4]; rfl) hu rfl rfl (h y hA)
theorem G68.step {N : Nat} {s0 : Label} {s1 : Int} {s2 : Int} {s3 : List Choice} {s4 : List Label} {ρ : Type} {A : (List Label) → Option ρ} {q : ρ} {xs : List SV} {id : Nat} {m : Nat → Blk} {l : List Loc} {K : Dl → List Loc → Prop} {k0 k1 k2 k3 k4 : Nat} (ha : xs = [.dat (.agg [iN s0.X, iN s0.Y, iN s0.W, iN s0.H]), .ptr k0 0, .ptr k1 0, .ptr k2 0]) (b0 : m k0 = .box [.ptr k3 0]) (b1 : m k1 = .box [.dat (iN s1), .dat (iN s2), .rs k4 (List.length s4)]) (b2 : m k2 = .box [.fn 68 [] [.ptr k0 0, .ptr k1 0, .ptr k2 0]]) (b3 : m k3 = .arr (flatC Choice.d s3)) (b4 : m k4 = .row 50 4 (List.map Label.d s4)) (hu : m id = .unborn) (hn : nodupB [k0, k1, k2, k3, k4] = true) (h : ∀ y, A y = some q → K ⟨.tup [], [(k0, .box [.ptr k3 0]), (k1, .box [.dat (iN s1), .dat (iN s2), .rs id (List.length y)]), (k2, .box [.fn 68 [] [.ptr k0 0, .ptr k1 0, .ptr k2 0]]), (k3, .arr (flatC Choice.d s3)), (k4, .dead), (id, .row 50 4 (List.map Label.d y))]⟩ l) (hF : (f68 N s0 s1 s2 s3 s4).bind A = some q) : effPg Spf68 (G68) xs id (fun _ => SV.no) m l K := by
  obtain ⟨y, hy, hA⟩ := bind_some hF
  exact eff_step [k0, k1, k2, k3, k4] (s0, s1, s2, s3, s4) y _ ⟨N, hy⟩ rfl hn ha (by simp only [List.map_cons, List.map_nil, b0, b1, b2, b3, b4]; rfl) hu rfl rfl (h y hA)
def Srf68 : Ann := ⟨[], [0, 1, 2, 3, 4, 500], [(.cell 1 2, 500, 50, 4)], []⟩
set_option maxRecDepth 20000 in
set_option maxHeartbeats 4000000 in
theorem Q68 (N : Nat) : CallOK Try.prog 68 (effPg Spf68 (H68 N)) := by
  induction N with
  | zero => exact eff_none fun x y h => (by cases (show (none : Option ((List Label))) = some y from h))
  | succ N ih =>
    refine eff_of_vc (c := mkCtx tyTree [(68, false, effPg Spf68 (H68 N))]) rfl tyOK (ctx_eff (callable Try.func68 rfl rfl) ih (ctx_nil)) 1000 500 Srf68 Try.func68 rfl rfl (by kernel_rfl) rfl rfl rfl rfl rfl (fun _ => rfl) (fun _ => rfl) (fun _ _ => ⟨rfl, rfl⟩) ?_
    rintro ⟨s0, s1, s2, s3, s4⟩ y hF
    have hF : f68b (f68 N) N s0 s1 s2 s3 s4 = some y := hF
    show vc _ _ _ _ ⟨[(0, .dat (.agg [iN s0.X, iN s0.Y, iN s0.W, iN s0.H])), (1, .ptr 0 0), (2, .ptr 1 0), (3, .ptr 2 0)], [(0, .box [.ptr 3 0]), (1, .box [.dat (iN s1), .dat (iN s2), .rs 4 (List.length s4)]), (2, .box [.fn 68 [] [.ptr 0 0, .ptr 1 0, .ptr 2 0]]), (3, .arr (flatC Choice.d s3)), (4, .row 50 4 (List.map Label.d s4))]⟩ _
    unfold f68b at hF
    repeat' (first
      | ((with_reducible refine q0 _ _ ?_); clear Q q0 q1 q2)
      | ((with_reducible refine q1 _ _ _ _ ?_); clear Q q0 q1 q2)
      | ((with_reducible refine q2 _ _ _ ?_); clear Q q0 q1 q2)
      | ((with_reducible refine seq_op ?hx (fun Q q0 q1 q2 => ?_)); (case hx => exact rfl); conv => whnf)
      | ((with_reducible refine draw_op ?hx (fun Q q0 q1 q2 => ?_)); (case hx => exact rfl); conv => whnf)
      | ((with_reducible refine seq_op0 ?hx (fun Q q0 q1 q2 => ?_)); (case hx => exact rfl); conv => whnf)
      | ((with_reducible refine draw_op0 ?hx (fun Q q0 q1 q2 => ?_)); (case hx => exact rfl); conv => whnf)
      | ((with_reducible refine cond_id ?_); (first | ((refine condKT rfl ?hy ?_); (case hy => first | assumption | exact notT (by assumption) | exact rfl)) | ((refine condKF rfl ?hy ?_); (case hy => first | assumption | exact notF (by assumption) | exact rfl)) | (revert hF; (with_reducible refine condF ?hx ?_ ?_); (case hx => exact rfl); all_goals (intro hc hF))))
      | ((with_reducible refine seq_nil ?_); (first | ((with_reducible refine hR _ ?_); clear R hR) | ((with_reducible refine hL _ ?_); clear L hL)))
      | ((with_reducible refine draw_nil ?_); (with_reducible refine hR _ _ ?hx ?_); (case hx => kernel_rfl); (first | clear R hR | clear hR))
      | ((with_reducible refine int_step ?_); conv => whnf)
      | ((with_reducible refine len_step ?_); conv => whnf)
      | with_reducible refine vc_block ?_
      | with_reducible refine vc_skip ?_
      | with_reducible refine vc_ret ?_
      | with_reducible refine vc_exit ?_
      | ((with_reducible refine vc_seqN [] ?hx ?_); (case hx => exact rfl))
      | (with_reducible refine vc_region (fun R hR => ?_))
      | ((with_reducible refine vc_draw ?hx (fun R hR => ?_)); (case hx => exact rfl))
      | fail
      | (revert hF; (refine H68.step rfl rfl rfl rfl rfl rfl rfl ?hn ?_); (case hn => exact rfl); intro v hF; conv => whnf)
      | (show retE _ _ _ _ _ _; conv => whnf)
      | (cases hF; exact ⟨rfl, rfl, rfl⟩)
      | ((with_reducible refine chkI_go hF ?_); (clear hF; intro hF; conv => whnf))
      | ((with_reducible have hG := ixN_fact hF); clear hF; (first | (refine ixN_one hG (by (try simp only [W]); omega) (fun x hF => ?_)) | (refine ixN_agg hG (fun _ => rfl) (by (try simp only [W]); omega) (fun x hF => ?_))); clear hG; conv => whnf)
      | ((with_reducible have hG := setN_fact hF); clear hF; (first | (refine setN_one hG (by (try simp only [W]); omega) rfl rfl (fun q hF => ?_)) | (refine setN_agg hG (fun _ => rfl) (by (try simp only [W]); omega) rfl rfl (fun q hF => ?_))); clear hG; conv => whnf)
      | with_reducible refine k_seq_ret ?_
      | with_reducible refine k_seq_exit ?_
      | with_reducible refine k_blk ?_
      | with_reducible refine k_blk_ret ?_
      | with_reducible refine k_blk_here ?_
      | ((with_reducible refine k_blk_out ?hx ?_); (case hx => exact rfl))
      | ((with_reducible have hG := app_fact hF); clear hF; (first | ((refine app_row hG ?hn ?hs (fun q hF => ?_)); (case hn => first | exact rfl | assumption | omega); (case hs => exact rfl)) | ((refine app_nil (d := Label.d) hG ?hs (fun q hF => ?_)); (case hs => exact rfl)) | ((refine app_gen (d := Label.d) hG ?ho ?hn ?hs (fun q hF => ?_)); (case ho => exact rfl); (case hn => exact rfl); (case hs => exact rfl))); clear hG; conv => whnf)
      | ((refine row_all ?hn ?_); (case hn => first | exact rfl | (simp; done) | (simp; omega)); conv => whnf)
      | ((with_reducible refine le_step ?hn ?_); (case hn => first | exact rfl | assumption | omega); conv => whnf)
      | ((refine ⟨?hx, ?_⟩); (case hx => exact ⟨rfl, Nat.le_of_ble_eq_true rfl, rfl⟩); conv => whnf)
      | ((with_reducible refine ex_step ?_); conv => whnf)
      | ((with_reducible refine both_T ?hx ?_); (case hx => first | exact rfl | assumption | exact notT (by assumption)); conv => whnf)
      | ((with_reducible refine both_F ?hx ?_); (case hx => first | exact rfl | assumption | exact notF (by assumption)); conv => whnf)
      | (revert hF; (with_reducible refine ite_step ?_ ?_) <;> (intro hc hF; conv => whnf))
      | ((with_reducible refine vc_condT ?hx ?_); (case hx => exact rfl))
      | ((with_reducible refine vc_condF ?hx ?_); (case hx => exact rfl))
      | (show retD _ _ _ _ _ _; conv => whnf)
      | ((refine ⟨?hx, trivial⟩); (case hx => (cases hF; exact rfl)))
      | ((refine ⟨?hx, ?_⟩); (case hx => decide); conv => whnf)
      | ((with_reducible refine k_seq ?_))
      | (have hF : (none : Option _) = some _ := hF; cases hF))
theorem P68 : CallOK Try.prog 68 (effPg Spf68 G68) := eff_ex Q68
end
end Go.Vc

/-
  A library for proofs about Go functions by symbolic evaluation, and plain Lean functions that the walked Go functions compute (written by a program of this claim).
-/
import Derived.Test.YtikifojhjbcfhaaVc3
import Derived.Test.YtikifojhjbcfhaaProg
namespace Go.Vc
open Go.Proofs
set_option maxRecDepth 20000
def tyTree : Tree (Option TI) :=
  (.node (.node (.node (.node (.node (.node (.node (.node .leaf (some ⟨.ptr, 1, 8, false, [0], [.pointer none]⟩) .leaf) (some ⟨.fn, 1, 8, false, [0], [.nilFunc]⟩) (.node .leaf none .leaf)) (some ⟨.fn, 1, 8, false, [0], [.nilFunc]⟩) (.node (.node .leaf (some ⟨.fn, 1, 8, false, [0], [.nilFunc]⟩) .leaf) (some ⟨(.slice 95 3 true), 1, 24, false, [3], [.slice none 0 0]⟩) (.node .leaf (some ⟨.fn, 1, 8, false, [0], [.nilFunc]⟩) .leaf))) (some ⟨.ptr, 1, 8, false, [0], [.pointer none]⟩) (.node (.node (.node .leaf none .leaf) none (.node .leaf none .leaf)) (some ⟨.fn, 1, 8, false, [0], [.nilFunc]⟩) (.node (.node .leaf (some ⟨(.arr 0 1 false), 0, 0, true, [], []⟩) .leaf) (some ⟨.fn, 1, 8, false, [0], [.nilFunc]⟩) (.node .leaf none .leaf)))) none (.node (.node (.node (.node .leaf none .leaf) (some ⟨.fn, 1, 8, false, [0], [.nilFunc]⟩) (.node .leaf (some ⟨.fn, 1, 8, false, [0], [.nilFunc]⟩) .leaf)) (some ⟨.fn, 1, 8, false, [0], [.nilFunc]⟩) (.node (.node .leaf none .leaf) (some ⟨.fn, 1, 8, false, [0], [.nilFunc]⟩) (.node .leaf none .leaf))) (some ⟨.ptr, 1, 8, false, [0], [.pointer none]⟩) (.node (.node (.node .leaf (some ⟨.fn, 1, 8, false, [0], [.nilFunc]⟩) .leaf) (some ⟨.fn, 1, 8, false, [0], [.nilFunc]⟩) (.node .leaf (some ⟨.ptr, 1, 8, false, [0], [.pointer none]⟩) .leaf)) (some ⟨.fn, 1, 8, false, [0], [.nilFunc]⟩) (.node (.node .leaf none .leaf) (some ⟨.fn, 1, 8, false, [0], [.nilFunc]⟩) (.node .leaf none .leaf))))) (some ⟨(.int .i64), 1, 8, false, [0], [.int .i64 0]⟩) (.node (.node (.node (.node (.node .leaf (some ⟨(.struct [(0, 1, false), (1, 1, false), (2, 1, false), (3, 1, false), (4, 1, false), (5, 1, false), (6, 1, false), (7, 1, false), (8, 1, false), (9, 1, false), (10, 1, false)]), 11, 48, true, [0, 0, 0, 0, 0, 0, 0, 0, 0, 0, 0], [.int .u64 0, .int .u64 0, .int .u32 0, .int .u8 0, .int .u8 0, .int .u8 0, .int .u8 0, .nilFunc, .pointer none, .int .i32 0, .int .i32 0]⟩) .leaf) (some ⟨(.mp 73 4), 1, 8, false, [0], [.map none]⟩) (.node .leaf none .leaf)) (some ⟨(.slice 55 2 true), 1, 24, false, [2], [.slice none 0 0]⟩) (.node (.node .leaf none .leaf) (some ⟨(.struct [(0, 1, false), (1, 1, false), (2, 1, false)]), 3, 24, true, [0, 0, 0], [.int .i64 0, .int .i64 0, .int .i64 0]⟩) .leaf)) (some ⟨.ptr, 1, 8, false, [0], [.pointer none]⟩) (.node (.node .leaf (some ⟨(.struct [(0, 1, false), (1, 1, false), (2, 1, false)]), 3, 24, true, [0, 0, 0], [.int .i64 0, .int .i64 0, .int .i64 0]⟩) .leaf) none (.node .leaf (some ⟨.fn, 1, 8, false, [0], [.nilFunc]⟩) .leaf))) none (.node (.node (.node .leaf (some ⟨.fn, 1, 8, false, [0], [.nilFunc]⟩) .leaf) (some ⟨.fn, 1, 8, false, [0], [.nilFunc]⟩) (.node .leaf (some ⟨.fn, 1, 8, false, [0], [.nilFunc]⟩) .leaf)) none (.node (.node .leaf (some ⟨.fn, 1, 8, false, [0], [.nilFunc]⟩) .leaf) (some ⟨(.slice 83 2 true), 1, 24, false, [2], [.slice none 0 0]⟩) (.node .leaf (some ⟨.fn, 1, 8, false, [0], [.nilFunc]⟩) .leaf))))) (some ⟨.fn, 1, 8, false, [0], [.nilFunc]⟩) (.node (.node (.node (.node (.node .leaf (some ⟨.fn, 1, 8, false, [0], [.nilFunc]⟩) .leaf) none (.node .leaf (some ⟨.fn, 1, 8, false, [0], [.nilFunc]⟩) .leaf)) none (.node (.node .leaf (some ⟨.fn, 1, 8, false, [0], [.nilFunc]⟩) .leaf) (some ⟨.fn, 1, 8, false, [0], [.nilFunc]⟩) (.node .leaf (some ⟨.fn, 1, 8, false, [0], [.nilFunc]⟩) .leaf))) (some ⟨.str, 1, 16, false, [0], [.string ⟨#[]⟩]⟩) (.node (.node (.node .leaf (some ⟨(.struct [(0, 1, false), (1, 1, false)]), 2, 16, true, [0, 0], [.int .i64 0, .int .i64 0]⟩) .leaf) none (.node .leaf (some ⟨.fn, 1, 8, false, [0], [.nilFunc]⟩) .leaf)) (some ⟨.iface, 1, 16, false, [0], [.nilIface]⟩) (.node (.node .leaf (some ⟨.fn, 1, 8, false, [0], [.nilFunc]⟩) .leaf) (some ⟨.fn, 1, 8, false, [0], [.nilFunc]⟩) (.node .leaf (some ⟨.fn, 1, 8, false, [0], [.nilFunc]⟩) .leaf)))) (some ⟨.bool, 1, 1, false, [0], [.bool false]⟩) (.node (.node (.node (.node .leaf (some ⟨.fn, 1, 8, false, [0], [.nilFunc]⟩) .leaf) (some ⟨.fn, 1, 8, false, [0], [.nilFunc]⟩) (.node .leaf (some ⟨.fn, 1, 8, false, [0], [.nilFunc]⟩) .leaf)) (some ⟨(.int .i32), 1, 4, false, [0], [.int .i32 0]⟩) (.node (.node .leaf (some ⟨.fn, 1, 8, false, [0], [.nilFunc]⟩) .leaf) (some ⟨.fn, 1, 8, false, [0], [.nilFunc]⟩) (.node .leaf (some ⟨.fn, 1, 8, false, [0], [.nilFunc]⟩) .leaf))) none (.node (.node (.node .leaf (some ⟨.fn, 1, 8, false, [0], [.nilFunc]⟩) .leaf) (some ⟨.fn, 1, 8, false, [0], [.nilFunc]⟩) (.node .leaf (some ⟨.fn, 1, 8, false, [0], [.nilFunc]⟩) .leaf)) (some ⟨.fn, 1, 8, false, [0], [.nilFunc]⟩) (.node (.node .leaf (some ⟨.fn, 1, 8, false, [0], [.nilFunc]⟩) .leaf) (some ⟨.fn, 1, 8, false, [0], [.nilFunc]⟩) (.node .leaf (some ⟨.fn, 1, 8, false, [0], [.nilFunc]⟩) .leaf)))))) none (.node (.node (.node (.node (.node (.node .leaf (some ⟨(.struct [(0, 1, false), (1, 1, false), (2, 1, false)]), 3, 24, true, [0, 0, 0], [.int .i64 0, .int .i64 0, .int .i64 0]⟩) .leaf) (some ⟨.fn, 1, 8, false, [0], [.nilFunc]⟩) (.node .leaf (some ⟨.fn, 1, 8, false, [0], [.nilFunc]⟩) .leaf)) none (.node (.node .leaf (some ⟨.fn, 1, 8, false, [0], [.nilFunc]⟩) .leaf) (some ⟨(.arr 5 1 false), 5, 5, true, [0, 0, 0, 0, 0], [.int .u8 0, .int .u8 0, .int .u8 0, .int .u8 0, .int .u8 0]⟩) (.node .leaf (some ⟨.fn, 1, 8, false, [0], [.nilFunc]⟩) .leaf))) none (.node (.node (.node .leaf (some ⟨.fn, 1, 8, false, [0], [.nilFunc]⟩) .leaf) (some ⟨(.struct [(0, 1, false), (1, 1, false), (2, 5, true), (7, 5, true), (12, 5, true)]), 17, 17, true, [0, 0, 0, 0, 0, 0, 0, 0, 0, 0, 0, 0, 0, 0, 0, 0, 0], [.int .u8 0, .int .u8 0, .int .u8 0, .int .u8 0, .int .u8 0, .int .u8 0, .int .u8 0, .int .u8 0, .int .u8 0, .int .u8 0, .int .u8 0, .int .u8 0, .int .u8 0, .int .u8 0, .int .u8 0, .int .u8 0, .int .u8 0]⟩) (.node .leaf none .leaf)) (some ⟨.fn, 1, 8, false, [0], [.nilFunc]⟩) (.node (.node .leaf (some ⟨.fn, 1, 8, false, [0], [.nilFunc]⟩) .leaf) (some ⟨(.struct [(0, 1, false), (1, 1, false), (2, 5, true), (7, 5, true), (12, 5, true)]), 17, 17, true, [0, 0, 0, 0, 0, 0, 0, 0, 0, 0, 0, 0, 0, 0, 0, 0, 0], [.int .u8 0, .int .u8 0, .int .u8 0, .int .u8 0, .int .u8 0, .int .u8 0, .int .u8 0, .int .u8 0, .int .u8 0, .int .u8 0, .int .u8 0, .int .u8 0, .int .u8 0, .int .u8 0, .int .u8 0, .int .u8 0, .int .u8 0]⟩) (.node .leaf (some ⟨.fn, 1, 8, false, [0], [.nilFunc]⟩) .leaf)))) (some ⟨(.int .u8), 1, 1, false, [0], [.int .u8 0]⟩) (.node (.node (.node (.node .leaf (some ⟨.fn, 1, 8, false, [0], [.nilFunc]⟩) .leaf) (some ⟨(.slice 5 1 false), 1, 24, false, [1], [.slice none 0 0]⟩) (.node .leaf (some ⟨.fn, 1, 8, false, [0], [.nilFunc]⟩) .leaf)) (some ⟨.fn, 1, 8, false, [0], [.nilFunc]⟩) (.node (.node .leaf (some ⟨.fn, 1, 8, false, [0], [.nilFunc]⟩) .leaf) (some ⟨.fn, 1, 8, false, [0], [.nilFunc]⟩) (.node .leaf (some ⟨(.arr 10 1 false), 10, 10, true, [0, 0, 0, 0, 0, 0, 0, 0, 0, 0], [.bool false, .bool false, .bool false, .bool false, .bool false, .bool false, .bool false, .bool false, .bool false, .bool false]⟩) .leaf))) (some ⟨(.int .u64), 1, 8, false, [0], [.int .u64 0]⟩) (.node (.node (.node .leaf (some ⟨.fn, 1, 8, false, [0], [.nilFunc]⟩) .leaf) (some ⟨.fn, 1, 8, false, [0], [.nilFunc]⟩) (.node .leaf (some ⟨.fn, 1, 8, false, [0], [.nilFunc]⟩) .leaf)) (some ⟨(.slice 27 1 false), 1, 24, false, [1], [.slice none 0 0]⟩) (.node (.node .leaf (some ⟨(.int .u64), 1, 8, false, [0], [.int .u64 0]⟩) .leaf) (some ⟨(.struct [(0, 1, false), (1, 1, false)]), 2, 16, true, [0, 0], [.int .i64 0, .int .i64 0]⟩) (.node .leaf (some ⟨.fn, 1, 8, false, [0], [.nilFunc]⟩) .leaf))))) (some ⟨(.int .i64), 1, 8, false, [0], [.int .i64 0]⟩) (.node (.node (.node (.node (.node .leaf (some ⟨(.int .i64), 1, 8, false, [0], [.int .i64 0]⟩) .leaf) (some ⟨(.struct [(0, 1, false), (1, 1, false)]), 2, 16, true, [0, 0], [.int .i64 0, .int .i64 0]⟩) (.node .leaf none .leaf)) (some ⟨(.slice 3 1 false), 1, 24, false, [1], [.slice none 0 0]⟩) (.node (.node .leaf (some ⟨.fn, 1, 8, false, [0], [.nilFunc]⟩) .leaf) (some ⟨.fn, 1, 8, false, [0], [.nilFunc]⟩) (.node .leaf (some ⟨.fn, 1, 8, false, [0], [.nilFunc]⟩) .leaf))) none (.node (.node (.node .leaf (some ⟨.fn, 1, 8, false, [0], [.nilFunc]⟩) .leaf) (some ⟨(.int .u16), 1, 2, false, [0], [.int .u16 0]⟩) (.node .leaf (some ⟨.fn, 1, 8, false, [0], [.nilFunc]⟩) .leaf)) (some ⟨.fn, 1, 8, false, [0], [.nilFunc]⟩) (.node (.node .leaf (some ⟨.fn, 1, 8, false, [0], [.nilFunc]⟩) .leaf) (some ⟨.fn, 1, 8, false, [0], [.nilFunc]⟩) (.node .leaf (some ⟨(.int .u32), 1, 4, false, [0], [.int .u32 0]⟩) .leaf)))) none (.node (.node (.node (.node .leaf (some ⟨.fn, 1, 8, false, [0], [.nilFunc]⟩) .leaf) none (.node .leaf (some ⟨(.int .u64), 1, 8, false, [0], [.int .u64 0]⟩) .leaf)) (some ⟨(.int .i64), 1, 8, false, [0], [.int .i64 0]⟩) (.node (.node .leaf (some ⟨(.int .u64), 1, 8, false, [0], [.int .u64 0]⟩) .leaf) (some ⟨.fn, 1, 8, false, [0], [.nilFunc]⟩) (.node .leaf (some ⟨.fn, 1, 8, false, [0], [.nilFunc]⟩) .leaf))) none (.node (.node (.node .leaf (some ⟨.fn, 1, 8, false, [0], [.nilFunc]⟩) .leaf) (some ⟨(.slice 73 3 true), 1, 24, false, [3], [.slice none 0 0]⟩) (.node .leaf (some ⟨.fn, 1, 8, false, [0], [.nilFunc]⟩) .leaf)) none (.node (.node .leaf (some ⟨.ptr, 1, 8, false, [0], [.pointer none]⟩) .leaf) none (.node .leaf (some ⟨.fn, 1, 8, false, [0], [.nilFunc]⟩) .leaf)))))))
theorem tyOK : TyOK Try.prog tyTree := ty_ok (by kernel_rfl)
end Go.Vc
namespace Go.Vc
open Go.Proofs
set_option linter.unusedVariables false
set_option linter.unnecessarySimpa false
set_option linter.unusedSimpArgs false
structure Fix where
  At : Int
  Digit : Int
  deriving DecidableEq, Inhabited
def Fix.d (x : Fix) : D := .agg [iN x.At, iN x.Digit]
structure A5u8N where
  e0 : Int
  e1 : Int
  e2 : Int
  e3 : Int
  e4 : Int
  deriving DecidableEq, Inhabited
def A5u8N.d (x : A5u8N) : D := .agg [u8N x.e0, u8N x.e1, u8N x.e2, u8N x.e3, u8N x.e4]
structure Plate where
  Base : Int
  Step : Int
  Rows : A5u8N
  Columns : A5u8N
  Numbers : A5u8N
  deriving DecidableEq, Inhabited
def Plate.d (x : Plate) : D := .agg [u8N x.Base, u8N x.Step, u8N x.Rows.e0, u8N x.Rows.e1, u8N x.Rows.e2, u8N x.Rows.e3, u8N x.Rows.e4, u8N x.Columns.e0, u8N x.Columns.e1, u8N x.Columns.e2, u8N x.Columns.e3, u8N x.Columns.e4, u8N x.Numbers.e0, u8N x.Numbers.e1, u8N x.Numbers.e2, u8N x.Numbers.e3, u8N x.Numbers.e4]
structure Spot where
  State : Int
  A : Int
  B : Int
  deriving DecidableEq, Inhabited
def Spot.d (x : Spot) : D := .agg [iN x.State, iN x.A, iN x.B]
def sl_iN (l : List Int) : D := .sl 1 (l.map iN)
def sl_sl_iN (l : List (List Int)) : D := .sl 1 (l.map sl_iN)
def sl_u8N (l : List Int) : D := .sl 1 (l.map u8N)
def sl_Fix (l : List Fix) : D := .sl 2 (l.map Fix.d)
def sl_Spot (l : List Spot) : D := .sl 3 (l.map Spot.d)
end Go.Vc
namespace Go.Vc
open Go.Proofs
set_option linter.unusedVariables false
set_option linter.unnecessarySimpa false
set_option linter.unusedSimpArgs false
section
variable {c : Ctx} {p nid : Nat} {a b : Code} {st : St} {K : Ex → St → Prop}
/- f16: tusche/serial.Value -/
def f16_c9 (n2 : Int) : Option (Int × Bool) :=
 some (n2, true)
def Sf16_c9 : Ann := ⟨[2], [], [], []⟩
def Vf16_c9 (n2 : Int) : List SV := [.dat (iN n2)]
def Bf16_c9 (n2 : Int) : List Blk := []
def Yf16_c9 (y : Int) : List SV := Vf16_c9 y
def Xf16_c9 (y : Int) : List Blk := Bf16_c9 y
def Jf16_c9 (r : Int × Bool) (y : Int) : Prop := f16_c9 y = some r
theorem Cf16_c9 {r : Int × Bool} {g : _ → Option (Int × Bool)} (hn : Nat.beq (nid * 1000 + firstRegion b) 9 = true) (hz : Sf16_c9.ok p = true) (h : g f16_c9 = some r → vc c p nid a st (KHead Sf16_c9 Yf16_c9 Xf16_c9 (Jf16_c9 r) K)) (h2 : ∀ (n2 : Int), f16_c9 n2 = some r → vc c p nid b (St.mk' Sf16_c9 (Vf16_c9 n2) (Bf16_c9 n2)) K) (hF : joinK f16_c9 g = some r) : vc c p nid (.seq a b) st K :=
  vc_cut Sf16_c9 Yf16_c9 Xf16_c9 (Jf16_c9 r) hz (h hF) fun y hy => h2 y hy
theorem Zf16_c9 {r : Int × Bool} {n2 : Int} (hF : f16_c9 n2 = some r) (h0 : AtH Sf16_c9 st (Vf16_c9 n2) (Bf16_c9 n2)) : KHead Sf16_c9 Yf16_c9 Xf16_c9 (Jf16_c9 r) K .normal st := by
  exact khead (I := (Jf16_c9 r)) (x := (n2)) hF h0
def f16_4b (r4 : Int → Nat → Option (Int × Bool)) (a0 : ByteArray) (k0 : Int → Option (Int × Bool)) (n2 : Int) (p301 : Nat) : Option (Int × Bool) :=
 bif decide (p301 < ByteArray.size a0) then ((some (runeAt a0 p301)).bind fun x1 =>
 bif decide (x1.1 < (48 : Int)) then (some ((0 : Int), false))
 else (bif decide ((57 : Int) < x1.1) then (some ((0 : Int), false))
 else (r4 (W ((W ((10 : Int) * n2)) + (Wk .i32 (x1.1 - (48 : Int))))) x1.2)))
 else (k0 n2)
def f16_4 (a0 : ByteArray) (k0 : Int → Option (Int × Bool)) : Nat → Int → Nat → Option (Int × Bool)
  | 0, _, _ => none
  | n + 1, n2, p301 => f16_4b (f16_4 a0 k0 n) a0 k0 n2 p301
def Sf16_4 : Ann := ⟨[2, 23], [301], [], []⟩
def Vf16_4 (a0 : ByteArray) (n2 : Int) (p301 : Nat) : List SV := [.dat (iN n2), .ptr 301 0]
def Bf16_4 (a0 : ByteArray) (n2 : Int) (p301 : Nat) : List Blk := [.sit a0 p301]
def Yf16_4 (a0 : ByteArray) (y : Nat × Int × Nat) : List SV := Vf16_4 a0 y.2.1 y.2.2
def Xf16_4 (a0 : ByteArray) (y : Nat × Int × Nat) : List Blk := Bf16_4 a0 y.2.1 y.2.2
def Jf16_4 (a0 : ByteArray) (k0 : Int → Option (Int × Bool)) (r : Int × Bool) (y : Nat × Int × Nat) : Prop := f16_4 a0 k0 y.1 y.2.1 y.2.2 = some r
theorem Lf16_4 {r : Int × Bool} {a0 : ByteArray} {k0 : Int → Option (Int × Bool)} {fu : Nat} {n2 : Int} {p301 : Nat} (hz : Sf16_4.ok p = true) (h0 : AtH Sf16_4 st (Vf16_4 a0 n2 p301) (Bf16_4 a0 n2 p301)) (h : ∀ (n : Nat) (n2 : Int) (p301 : Nat), f16_4b (f16_4 a0 k0 n) a0 k0 n2 p301 = some r → vc c p nid a (St.mk' Sf16_4 (Vf16_4 a0 n2 p301) (Bf16_4 a0 n2 p301)) (Kloop Sf16_4 (Yf16_4 a0) (Xf16_4 a0) (Jf16_4 a0 k0 r) Prod.fst (n + 1, n2, p301) K)) (hF : f16_4 a0 k0 fu n2 p301 = some r) : vc c p nid (.loop a) st K := by
  refine vc_loop Sf16_4 (Yf16_4 a0) (Xf16_4 a0) (Jf16_4 a0 k0 r) Prod.fst hz (kheadL (x := (fu, n2, p301)) hF h0) ?_
  rintro ⟨_ | n, n2, p301⟩ hI
  · cases hI
  · exact h n n2 p301 hI
theorem Mf16_4 {r : Int × Bool} {a0 : ByteArray} {k0 : Int → Option (Int × Bool)} {n : Nat} {n2 : Int} {p301 : Nat} {n2_ : Int} {p301_ : Nat} (hF : f16_4 a0 k0 n n2 p301 = some r) (h0 : AtH Sf16_4 st (Vf16_4 a0 n2 p301) (Bf16_4 a0 n2 p301)) : Kloop Sf16_4 (Yf16_4 a0) (Xf16_4 a0) (Jf16_4 a0 k0 r) Prod.fst (n + 1, n2_, p301_) K .normal st := by
  exact kback (y := (n, n2, p301)) hF (Nat.lt_succ_self n) h0
def f16_c3 (a0 : ByteArray) (N : Nat) : Option (Int × Bool) :=
 joinK f16_c9 fun k0 =>
 f16_4 a0 k0 N (0 : Int) 0
def Sf16_c3 : Ann := ⟨[0, 2], [], [], []⟩
def Vf16_c3 (a0 : ByteArray) : List SV := [.dat (strN a0), .dat (iN (0 : Int))]
def Bf16_c3 (a0 : ByteArray) : List Blk := []
def Yf16_c3 (a0 : ByteArray) (y : Unit) : List SV := Vf16_c3 a0
def Xf16_c3 (a0 : ByteArray) (y : Unit) : List Blk := Bf16_c3 a0
def Jf16_c3 (a0 : ByteArray) (N : Nat) (r : Int × Bool) (y : Unit) : Prop := f16_c3 a0 N = some r
theorem Cf16_c3 {r : Int × Bool} {a0 : ByteArray} {N : Nat} {g : _ → Option (Int × Bool)} (hn : Nat.beq (nid * 1000 + firstRegion b) 3 = true) (hz : Sf16_c3.ok p = true) (h : g (f16_c3 a0 N) = some r → vc c p nid a st (KHead Sf16_c3 (Yf16_c3 a0) (Xf16_c3 a0) (Jf16_c3 a0 N r) K)) (h2 : ∀ (_ : Unit), f16_c3 a0 N = some r → vc c p nid b (St.mk' Sf16_c3 (Vf16_c3 a0) (Bf16_c3 a0)) K) (hF : joinK (f16_c3 a0 N) g = some r) : vc c p nid (.seq a b) st K :=
  vc_cut Sf16_c3 (Yf16_c3 a0) (Xf16_c3 a0) (Jf16_c3 a0 N r) hz (h hF) fun y hy => h2 () hy
theorem Zf16_c3 {r : Int × Bool} {a0 : ByteArray} {N : Nat} (hF : f16_c3 a0 N = some r) (h0 : AtH Sf16_c3 st (Vf16_c3 a0) (Bf16_c3 a0)) : KHead Sf16_c3 (Yf16_c3 a0) (Xf16_c3 a0) (Jf16_c3 a0 N r) K .normal st := by
  exact khead (I := (Jf16_c3 a0 N r)) (x := ()) hF h0
def f16 (N : Nat) (a0 : ByteArray) : Option (Int × Bool) :=
 joinK (f16_c3 a0 N) fun k1 =>
 bif decide (a0 = emptyS) then (some ((0 : Int), false))
 else (bif decide ((8 : Int) < (ByteArray.size a0 : Int)) then (some ((0 : Int), false))
 else ((idxS a0 (0 : Int)).bind fun x2 =>
 bif decide (x2 = (48 : Int)) then (bif decide (¬ a0 = (strC [48])) then (some ((0 : Int), false))
 else k1)
 else k1))
def G16 (ds : List D) (d : D) : Prop := ∃ (N : Nat) (a0 : ByteArray) (r : Int × Bool), ds = [strN a0] ∧ f16 N a0 = some r ∧ d = .tup [iN r.1, bN r.2]
theorem G16.lend {N : Nat} {a0 : ByteArray} {ρ : Type} {A : (Int × Bool) → Option ρ} {q : ρ} {ds : List D} {K : D → Prop} (hd : ds = [strN a0]) (h : ∀ r, A r = some q → K (.tup [iN r.1, bN r.2])) (hF : (f16 N a0).bind A = some q) : ∃ d, (G16 ds d ∧ d.flatB = true) ∧ K d := by
  obtain ⟨r, hr, hA⟩ := bind_some hF
  exact ⟨_, ⟨⟨N, a0, r, hd, hr, rfl⟩, rfl⟩, h r hA⟩
theorem G16.step {N : Nat} {a0 : ByteArray} {ρ : Type} {A : (Int × Bool) → Option ρ} {q : ρ} {ds : List D} {K : D → Prop} (hd : ds = [strN a0]) (h : ∀ r, A r = some q → K (.tup [iN r.1, bN r.2])) (hF : (f16 N a0).bind A = some q) : ∃ d, G16 ds d ∧ K d := by
  obtain ⟨r, hr, hA⟩ := bind_some hF
  exact ⟨_, ⟨N, a0, r, hd, hr, rfl⟩, h r hA⟩
set_option maxRecDepth 20000 in
set_option maxHeartbeats 4000000 in
theorem P16 : PureOK Try.prog 16 G16 := by
  refine pure_of_vc (c := mkCtx tyTree []) rfl tyOK (ctx_nil) [[0], [0]] 1 Try.func16 rfl rfl (by decide) (by kernel_rfl) ?_
  rintro ds d ⟨N, a0, r, rfl, hF, rfl⟩ hok
  clear hok
  refine ⟨rfl, ?_⟩
  show vc _ _ _ _ ⟨[(0, .dat (strN a0))], []⟩ _
  unfold f16 at hF
  repeat' (first
    | ((with_reducible refine q0 _ _ ?_); clear Q q0 q1 q2)
    | ((with_reducible refine q1 _ _ _ _ ?_); clear Q q0 q1 q2)
    | ((with_reducible refine q2 _ _ _ ?_); clear Q q0 q1 q2)
    | ((with_reducible refine seq_op ?hx (fun Q q0 q1 q2 => ?_)); (case hx => exact rfl); conv => whnf)
    | ((with_reducible refine seq_off ?hx ?_); (case hx => exact rfl))
    | ((with_reducible refine seq_off0 ?hx ?_); (case hx => exact rfl))
    | ((with_reducible refine seq_id ?_); (first | ((refine seq_opK rfl ?hy (fun Q q0 q1 q2 => ?_)); (case hy => first | assumption | exact notT (by assumption) | exact rfl); conv => whnf) | ((refine seq_offK rfl ?hy ?_); (case hy => first | assumption | exact notF (by assumption) | exact rfl)) | ((refine seq_opK0 rfl ?hy (fun Q q0 q1 q2 => ?_)); (case hy => first | assumption | exact notT (by assumption) | exact rfl); conv => whnf) | ((refine seq_offK0 rfl ?hy ?_); (case hy => first | assumption | exact notF (by assumption) | exact rfl)) | (revert hF; (with_reducible refine seq_opF ?hx ?_ ?_); (case hx => exact rfl); (intro hc hF Q q0 q1 q2; conv => whnf); rotate_left; (intro hc hF); rotate_right) | (revert hF; (with_reducible refine seq_opN ?hx ?_ ?_); (case hx => exact rfl); (intro hc hF); rotate_left; (intro hc hF Q q0 q1 q2; conv => whnf); rotate_right) | (revert hF; (with_reducible refine seq_opF0 ?hx ?_ ?_); (case hx => exact rfl); (intro hc hF Q q0 q1 q2; conv => whnf); rotate_left; (intro hc hF); rotate_right) | (revert hF; (with_reducible refine seq_opN0 ?hx ?_ ?_); (case hx => exact rfl); (intro hc hF); rotate_left; (intro hc hF Q q0 q1 q2; conv => whnf); rotate_right)))
    | ((with_reducible refine cond_id ?_); (first | ((refine condKT rfl ?hy ?_); (case hy => first | assumption | exact notT (by assumption) | exact rfl)) | ((refine condKF rfl ?hy ?_); (case hy => first | assumption | exact notF (by assumption) | exact rfl)) | (revert hF; (with_reducible refine condF ?hx ?_ ?_); (case hx => exact rfl); all_goals (intro hc hF))))
    | ((with_reducible refine seq_nil ?_); (first | ((with_reducible refine hR _ ?_); clear R hR) | ((with_reducible refine hL _ ?_); clear L hL)))
    | ((with_reducible refine int_step ?_); conv => whnf)
    | with_reducible refine vc_block ?_
    | with_reducible refine vc_skip ?_
    | with_reducible refine vc_ret ?_
    | with_reducible refine vc_exit ?_
    | ((with_reducible refine vc_seqN [9, 3] ?hx ?_); (case hx => exact rfl))
    | (with_reducible refine vc_region (fun R hR => ?_))
    | fail
    | (revert hF; (refine Cf16_c9 rfl rfl ?_ ?_); (intro hF); rotate_left; (intro n2 hF; unfold f16_c9 at hF); rotate_right)
    | exact Zf16_c9 hF ⟨_, rfl, rfl, rfl, rfl⟩
    | (revert hF; (refine Lf16_4 rfl ⟨_, rfl, rfl, rfl, rfl⟩ ?_); intro n n2 p301 hF; unfold f16_4b at hF)
    | exact Mf16_4 hF ⟨_, rfl, rfl, rfl, rfl⟩
    | (revert hF; (refine Cf16_c3 rfl rfl ?_ ?_); (intro hF); rotate_left; (intro _ hF; unfold f16_c3 at hF); rotate_right)
    | exact Zf16_c3 hF ⟨_, rfl, rfl, rfl, rfl⟩
    | (revert hF; (refine idxS_step ?_); intro x hF; conv => whnf)
    | (revert hF; (refine some_step ?_); intro x hF; conv => whnf)
    | with_reducible refine k_seq_ret ?_
    | with_reducible refine k_seq_exit ?_
    | with_reducible refine k_blk ?_
    | with_reducible refine k_blk_ret ?_
    | with_reducible refine k_blk_here ?_
    | ((with_reducible refine k_blk_out ?hx ?_); (case hx => exact rfl))
    | with_reducible refine k_loop_ret ?_
    | with_reducible refine k_loop_exit ?_
    | ((refine row_all ?hn ?_); (case hn => first | exact rfl | (simp; done) | (simp; omega)); conv => whnf)
    | ((with_reducible refine le_step ?hn ?_); (case hn => first | exact rfl | assumption | omega); conv => whnf)
    | ((refine ⟨?hx, ?_⟩); (case hx => exact ⟨rfl, Nat.le_of_ble_eq_true rfl, rfl⟩); conv => whnf)
    | ((with_reducible refine ex_step ?_); conv => whnf)
    | ((with_reducible refine both_T ?hx ?_); (case hx => first | exact rfl | assumption | exact notT (by assumption)); conv => whnf)
    | ((with_reducible refine both_F ?hx ?_); (case hx => first | exact rfl | assumption | exact notF (by assumption)); conv => whnf)
    | (revert hF; (with_reducible refine ite_step ?_ ?_) <;> (intro hc hF; conv => whnf))
    | ((with_reducible refine vc_condT ?hx ?_); (case hx => exact rfl))
    | ((with_reducible refine vc_condF ?hx ?_); (case hx => exact rfl))
    | (show retD _ _ _ _ _ _; conv => whnf)
    | ((refine ⟨?hx, trivial⟩); (case hx => (cases hF; exact rfl)))
    | ((refine ⟨?hx, ?_⟩); (case hx => decide); conv => whnf)
    | ((with_reducible refine k_seq ?_))
    | (have hF : (none : Option _) = some _ := hF; cases hF))
end
end Go.Vc
namespace Go.Vc
open Go.Proofs
set_option linter.unusedVariables false
set_option linter.unnecessarySimpa false
set_option linter.unusedSimpArgs false
section
variable {c : Ctx} {p nid : Nat} {a b : Code} {st : St} {K : Ex → St → Prop}
/- f18: tusche/serial.Name -/
def f18_c6 (a0 : ByteArray) : Option (Bool) :=
 bif decide (¬ a0 = emptyS) then (some (decide ((ByteArray.size a0 : Int) ≤ (9 : Int))))
 else (some (false))
def Sf18_c6 : Ann := ⟨[0], [], [], []⟩
def Vf18_c6 (a0 : ByteArray) : List SV := [.dat (strN a0)]
def Bf18_c6 (a0 : ByteArray) : List Blk := []
def Yf18_c6 (a0 : ByteArray) (y : Unit) : List SV := Vf18_c6 a0
def Xf18_c6 (a0 : ByteArray) (y : Unit) : List Blk := Bf18_c6 a0
def Jf18_c6 (a0 : ByteArray) (r : Bool) (y : Unit) : Prop := f18_c6 a0 = some r
theorem Cf18_c6 {r : Bool} {a0 : ByteArray} {g : _ → Option (Bool)} (hn : Nat.beq (nid * 1000 + firstRegion b) 6 = true) (hz : Sf18_c6.ok p = true) (h : g (f18_c6 a0) = some r → vc c p nid a st (KHead Sf18_c6 (Yf18_c6 a0) (Xf18_c6 a0) (Jf18_c6 a0 r) K)) (h2 : ∀ (_ : Unit), f18_c6 a0 = some r → vc c p nid b (St.mk' Sf18_c6 (Vf18_c6 a0) (Bf18_c6 a0)) K) (hF : joinK (f18_c6 a0) g = some r) : vc c p nid (.seq a b) st K :=
  vc_cut Sf18_c6 (Yf18_c6 a0) (Xf18_c6 a0) (Jf18_c6 a0 r) hz (h hF) fun y hy => h2 () hy
theorem Zf18_c6 {r : Bool} {a0 : ByteArray} (hF : f18_c6 a0 = some r) (h0 : AtH Sf18_c6 st (Vf18_c6 a0) (Bf18_c6 a0)) : KHead Sf18_c6 (Yf18_c6 a0) (Xf18_c6 a0) (Jf18_c6 a0 r) K .normal st := by
  exact khead (I := (Jf18_c6 a0 r)) (x := ()) hF h0
def f18_2b (r2 : Nat → Option (Bool)) (a0 : ByteArray) (k0 : Option (Bool)) (p101 : Nat) : Option (Bool) :=
 bif decide (p101 < ByteArray.size a0) then ((some (runeAt a0 p101)).bind fun x1 =>
 bif decide (x1.1 < (97 : Int)) then (some (false))
 else (bif decide ((122 : Int) < x1.1) then (some (false))
 else (r2 x1.2)))
 else k0
def f18_2 (a0 : ByteArray) (k0 : Option (Bool)) : Nat → Nat → Option (Bool)
  | 0, _ => none
  | n + 1, p101 => f18_2b (f18_2 a0 k0 n) a0 k0 p101
def Sf18_2 : Ann := ⟨[0, 6], [101], [], []⟩
def Vf18_2 (a0 : ByteArray) (p101 : Nat) : List SV := [.dat (strN a0), .ptr 101 0]
def Bf18_2 (a0 : ByteArray) (p101 : Nat) : List Blk := [.sit a0 p101]
def Yf18_2 (a0 : ByteArray) (y : Nat × Nat) : List SV := Vf18_2 a0 y.2
def Xf18_2 (a0 : ByteArray) (y : Nat × Nat) : List Blk := Bf18_2 a0 y.2
def Jf18_2 (a0 : ByteArray) (k0 : Option (Bool)) (r : Bool) (y : Nat × Nat) : Prop := f18_2 a0 k0 y.1 y.2 = some r
theorem Lf18_2 {r : Bool} {a0 : ByteArray} {k0 : Option (Bool)} {fu : Nat} {p101 : Nat} (hz : Sf18_2.ok p = true) (h0 : AtH Sf18_2 st (Vf18_2 a0 p101) (Bf18_2 a0 p101)) (h : ∀ (n : Nat) (p101 : Nat), f18_2b (f18_2 a0 k0 n) a0 k0 p101 = some r → vc c p nid a (St.mk' Sf18_2 (Vf18_2 a0 p101) (Bf18_2 a0 p101)) (Kloop Sf18_2 (Yf18_2 a0) (Xf18_2 a0) (Jf18_2 a0 k0 r) Prod.fst (n + 1, p101) K)) (hF : f18_2 a0 k0 fu p101 = some r) : vc c p nid (.loop a) st K := by
  refine vc_loop Sf18_2 (Yf18_2 a0) (Xf18_2 a0) (Jf18_2 a0 k0 r) Prod.fst hz (kheadL (x := (fu, p101)) hF h0) ?_
  rintro ⟨_ | n, p101⟩ hI
  · cases hI
  · exact h n p101 hI
theorem Mf18_2 {r : Bool} {a0 : ByteArray} {k0 : Option (Bool)} {n : Nat} {p101 : Nat} {p101_ : Nat} (hF : f18_2 a0 k0 n p101 = some r) (h0 : AtH Sf18_2 st (Vf18_2 a0 p101) (Bf18_2 a0 p101)) : Kloop Sf18_2 (Yf18_2 a0) (Xf18_2 a0) (Jf18_2 a0 k0 r) Prod.fst (n + 1, p101_) K .normal st := by
  exact kback (y := (n, p101)) hF (Nat.lt_succ_self n) h0
def f18 (N : Nat) (a0 : ByteArray) : Option (Bool) :=
 joinK (f18_c6 a0) fun k0 =>
 f18_2 a0 k0 N 0
def G18 (ds : List D) (d : D) : Prop := ∃ (N : Nat) (a0 : ByteArray) (r : Bool), ds = [strN a0] ∧ f18 N a0 = some r ∧ d = bN r
theorem G18.lend {N : Nat} {a0 : ByteArray} {ρ : Type} {A : Bool → Option ρ} {q : ρ} {ds : List D} {K : D → Prop} (hd : ds = [strN a0]) (h : ∀ r, A r = some q → K (bN r)) (hF : (f18 N a0).bind A = some q) : ∃ d, (G18 ds d ∧ d.flatB = true) ∧ K d := by
  obtain ⟨r, hr, hA⟩ := bind_some hF
  exact ⟨_, ⟨⟨N, a0, r, hd, hr, rfl⟩, rfl⟩, h r hA⟩
theorem G18.step {N : Nat} {a0 : ByteArray} {ρ : Type} {A : Bool → Option ρ} {q : ρ} {ds : List D} {K : D → Prop} (hd : ds = [strN a0]) (h : ∀ r, A r = some q → K (bN r)) (hF : (f18 N a0).bind A = some q) : ∃ d, G18 ds d ∧ K d := by
  obtain ⟨r, hr, hA⟩ := bind_some hF
  exact ⟨_, ⟨N, a0, r, hd, hr, rfl⟩, h r hA⟩
set_option maxRecDepth 20000 in
set_option maxHeartbeats 4000000 in
theorem P18 : PureOK Try.prog 18 G18 := by
  refine pure_of_vc (c := mkCtx tyTree []) rfl tyOK (ctx_nil) [[0]] 1 Try.func18 rfl rfl (by decide) (by kernel_rfl) ?_
  rintro ds d ⟨N, a0, r, rfl, hF, rfl⟩ hok
  clear hok
  refine ⟨rfl, ?_⟩
  show vc _ _ _ _ ⟨[(0, .dat (strN a0))], []⟩ _
  unfold f18 at hF
  repeat' (first
    | ((with_reducible refine q0 _ _ ?_); clear Q q0 q1 q2)
    | ((with_reducible refine q1 _ _ _ _ ?_); clear Q q0 q1 q2)
    | ((with_reducible refine q2 _ _ _ ?_); clear Q q0 q1 q2)
    | ((with_reducible refine seq_op ?hx (fun Q q0 q1 q2 => ?_)); (case hx => exact rfl); conv => whnf)
    | ((with_reducible refine seq_off ?hx ?_); (case hx => exact rfl))
    | ((with_reducible refine seq_off0 ?hx ?_); (case hx => exact rfl))
    | ((with_reducible refine seq_id ?_); (first | ((refine seq_opK rfl ?hy (fun Q q0 q1 q2 => ?_)); (case hy => first | assumption | exact notT (by assumption) | exact rfl); conv => whnf) | ((refine seq_offK rfl ?hy ?_); (case hy => first | assumption | exact notF (by assumption) | exact rfl)) | ((refine seq_opK0 rfl ?hy (fun Q q0 q1 q2 => ?_)); (case hy => first | assumption | exact notT (by assumption) | exact rfl); conv => whnf) | ((refine seq_offK0 rfl ?hy ?_); (case hy => first | assumption | exact notF (by assumption) | exact rfl)) | (revert hF; (with_reducible refine seq_opF ?hx ?_ ?_); (case hx => exact rfl); (intro hc hF Q q0 q1 q2; conv => whnf); rotate_left; (intro hc hF); rotate_right) | (revert hF; (with_reducible refine seq_opN ?hx ?_ ?_); (case hx => exact rfl); (intro hc hF); rotate_left; (intro hc hF Q q0 q1 q2; conv => whnf); rotate_right) | (revert hF; (with_reducible refine seq_opF0 ?hx ?_ ?_); (case hx => exact rfl); (intro hc hF Q q0 q1 q2; conv => whnf); rotate_left; (intro hc hF); rotate_right) | (revert hF; (with_reducible refine seq_opN0 ?hx ?_ ?_); (case hx => exact rfl); (intro hc hF); rotate_left; (intro hc hF Q q0 q1 q2; conv => whnf); rotate_right)))
    | ((with_reducible refine cond_id ?_); (first | ((refine condKT rfl ?hy ?_); (case hy => first | assumption | exact notT (by assumption) | exact rfl)) | ((refine condKF rfl ?hy ?_); (case hy => first | assumption | exact notF (by assumption) | exact rfl)) | (revert hF; (with_reducible refine condF ?hx ?_ ?_); (case hx => exact rfl); all_goals (intro hc hF))))
    | ((with_reducible refine seq_nil ?_); (first | ((with_reducible refine hR _ ?_); clear R hR) | ((with_reducible refine hL _ ?_); clear L hL)))
    | ((with_reducible refine int_step ?_); conv => whnf)
    | with_reducible refine vc_block ?_
    | with_reducible refine vc_skip ?_
    | with_reducible refine vc_ret ?_
    | with_reducible refine vc_exit ?_
    | ((with_reducible refine vc_seqN [6] ?hx ?_); (case hx => exact rfl))
    | (with_reducible refine vc_region (fun R hR => ?_))
    | fail
    | (revert hF; (refine Cf18_c6 rfl rfl ?_ ?_); (intro hF); rotate_left; (intro _ hF; unfold f18_c6 at hF); rotate_right)
    | exact Zf18_c6 hF ⟨_, rfl, rfl, rfl, rfl⟩
    | (revert hF; (refine Lf18_2 rfl ⟨_, rfl, rfl, rfl, rfl⟩ ?_); intro n p101 hF; unfold f18_2b at hF)
    | exact Mf18_2 hF ⟨_, rfl, rfl, rfl, rfl⟩
    | (revert hF; (refine some_step ?_); intro x hF; conv => whnf)
    | with_reducible refine k_seq_ret ?_
    | with_reducible refine k_seq_exit ?_
    | with_reducible refine k_blk ?_
    | with_reducible refine k_blk_ret ?_
    | with_reducible refine k_blk_here ?_
    | ((with_reducible refine k_blk_out ?hx ?_); (case hx => exact rfl))
    | with_reducible refine k_loop_ret ?_
    | with_reducible refine k_loop_exit ?_
    | ((refine row_all ?hn ?_); (case hn => first | exact rfl | (simp; done) | (simp; omega)); conv => whnf)
    | ((with_reducible refine le_step ?hn ?_); (case hn => first | exact rfl | assumption | omega); conv => whnf)
    | ((refine ⟨?hx, ?_⟩); (case hx => exact ⟨rfl, Nat.le_of_ble_eq_true rfl, rfl⟩); conv => whnf)
    | ((with_reducible refine ex_step ?_); conv => whnf)
    | ((with_reducible refine both_T ?hx ?_); (case hx => first | exact rfl | assumption | exact notT (by assumption)); conv => whnf)
    | ((with_reducible refine both_F ?hx ?_); (case hx => first | exact rfl | assumption | exact notF (by assumption)); conv => whnf)
    | (revert hF; (with_reducible refine ite_step ?_ ?_) <;> (intro hc hF; conv => whnf))
    | ((with_reducible refine vc_condT ?hx ?_); (case hx => exact rfl))
    | ((with_reducible refine vc_condF ?hx ?_); (case hx => exact rfl))
    | (show retD _ _ _ _ _ _; conv => whnf)
    | ((refine ⟨?hx, trivial⟩); (case hx => (cases hF; exact rfl)))
    | ((refine ⟨?hx, ?_⟩); (case hx => decide); conv => whnf)
    | ((with_reducible refine k_seq ?_))
    | (have hF : (none : Option _) = some _ := hF; cases hF))
end
end Go.Vc
namespace Go.Vc
open Go.Proofs
set_option linter.unusedVariables false
set_option linter.unnecessarySimpa false
set_option linter.unusedSimpArgs false
section
variable {c : Ctx} {p nid : Nat} {a b : Code} {st : St} {K : Ex → St → Prop}
/- f64: tusche/serial.between -/
def f64 (N : Nat) (a0 : Int) (a1 : Int) (a2 : Int) : Option (Bool) :=
 bif decide (a0 ≤ a1) then (some (decide (a1 ≤ a2)))
 else (some (false))
def G64 (ds : List D) (d : D) : Prop := ∃ (N : Nat) (a0 : Int) (a1 : Int) (a2 : Int) (r : Bool), ds = [iN a0, iN a1, iN a2] ∧ f64 N a0 a1 a2 = some r ∧ d = bN r
theorem G64.lend {N : Nat} {a0 : Int} {a1 : Int} {a2 : Int} {ρ : Type} {A : Bool → Option ρ} {q : ρ} {ds : List D} {K : D → Prop} (hd : ds = [iN a0, iN a1, iN a2]) (h : ∀ r, A r = some q → K (bN r)) (hF : (f64 N a0 a1 a2).bind A = some q) : ∃ d, (G64 ds d ∧ d.flatB = true) ∧ K d := by
  obtain ⟨r, hr, hA⟩ := bind_some hF
  exact ⟨_, ⟨⟨N, a0, a1, a2, r, hd, hr, rfl⟩, rfl⟩, h r hA⟩
theorem G64.step {N : Nat} {a0 : Int} {a1 : Int} {a2 : Int} {ρ : Type} {A : Bool → Option ρ} {q : ρ} {ds : List D} {K : D → Prop} (hd : ds = [iN a0, iN a1, iN a2]) (h : ∀ r, A r = some q → K (bN r)) (hF : (f64 N a0 a1 a2).bind A = some q) : ∃ d, G64 ds d ∧ K d := by
  obtain ⟨r, hr, hA⟩ := bind_some hF
  exact ⟨_, ⟨N, a0, a1, a2, r, hd, hr, rfl⟩, h r hA⟩
set_option maxRecDepth 20000 in
set_option maxHeartbeats 4000000 in
theorem P64 : PureOK Try.prog 64 G64 := by
  refine pure_of_vc (c := mkCtx tyTree []) rfl tyOK (ctx_nil) [[0]] 3 Try.func64 rfl rfl (by decide) (by kernel_rfl) ?_
  rintro ds d ⟨N, a0, a1, a2, r, rfl, hF, rfl⟩ hok
  clear hok
  refine ⟨rfl, ?_⟩
  show vc _ _ _ _ ⟨[(0, .dat (iN a0)), (1, .dat (iN a1)), (2, .dat (iN a2))], []⟩ _
  unfold f64 at hF
  repeat' (first
    | ((with_reducible refine q0 _ _ ?_); clear Q q0 q1 q2)
    | ((with_reducible refine q1 _ _ _ _ ?_); clear Q q0 q1 q2)
    | ((with_reducible refine q2 _ _ _ ?_); clear Q q0 q1 q2)
    | ((with_reducible refine seq_op ?hx (fun Q q0 q1 q2 => ?_)); (case hx => exact rfl); conv => whnf)
    | ((with_reducible refine seq_off ?hx ?_); (case hx => exact rfl))
    | ((with_reducible refine seq_off0 ?hx ?_); (case hx => exact rfl))
    | ((with_reducible refine seq_id ?_); (first | ((refine seq_opK rfl ?hy (fun Q q0 q1 q2 => ?_)); (case hy => first | assumption | exact notT (by assumption) | exact rfl); conv => whnf) | ((refine seq_offK rfl ?hy ?_); (case hy => first | assumption | exact notF (by assumption) | exact rfl)) | ((refine seq_opK0 rfl ?hy (fun Q q0 q1 q2 => ?_)); (case hy => first | assumption | exact notT (by assumption) | exact rfl); conv => whnf) | ((refine seq_offK0 rfl ?hy ?_); (case hy => first | assumption | exact notF (by assumption) | exact rfl)) | (revert hF; (with_reducible refine seq_opF ?hx ?_ ?_); (case hx => exact rfl); (intro hc hF Q q0 q1 q2; conv => whnf); rotate_left; (intro hc hF); rotate_right) | (revert hF; (with_reducible refine seq_opN ?hx ?_ ?_); (case hx => exact rfl); (intro hc hF); rotate_left; (intro hc hF Q q0 q1 q2; conv => whnf); rotate_right) | (revert hF; (with_reducible refine seq_opF0 ?hx ?_ ?_); (case hx => exact rfl); (intro hc hF Q q0 q1 q2; conv => whnf); rotate_left; (intro hc hF); rotate_right) | (revert hF; (with_reducible refine seq_opN0 ?hx ?_ ?_); (case hx => exact rfl); (intro hc hF); rotate_left; (intro hc hF Q q0 q1 q2; conv => whnf); rotate_right)))
    | ((with_reducible refine seq_nil ?_); (first | ((with_reducible refine hR _ ?_); clear R hR) | ((with_reducible refine hL _ ?_); clear L hL)))
    | ((with_reducible refine int_step ?_); conv => whnf)
    | with_reducible refine vc_skip ?_
    | with_reducible refine vc_ret ?_
    | ((with_reducible refine vc_seqN [] ?hx ?_); (case hx => exact rfl))
    | (with_reducible refine vc_region (fun R hR => ?_))
    | fail
    | with_reducible refine k_seq_ret ?_
    | ((refine row_all ?hn ?_); (case hn => first | exact rfl | (simp; done) | (simp; omega)); conv => whnf)
    | ((with_reducible refine le_step ?hn ?_); (case hn => first | exact rfl | assumption | omega); conv => whnf)
    | ((refine ⟨?hx, ?_⟩); (case hx => exact ⟨rfl, Nat.le_of_ble_eq_true rfl, rfl⟩); conv => whnf)
    | ((with_reducible refine ex_step ?_); conv => whnf)
    | ((with_reducible refine both_T ?hx ?_); (case hx => first | exact rfl | assumption | exact notT (by assumption)); conv => whnf)
    | ((with_reducible refine both_F ?hx ?_); (case hx => first | exact rfl | assumption | exact notF (by assumption)); conv => whnf)
    | (revert hF; (with_reducible refine ite_step ?_ ?_) <;> (intro hc hF; conv => whnf))
    | (show retD _ _ _ _ _ _; conv => whnf)
    | ((refine ⟨?hx, trivial⟩); (case hx => (cases hF; exact rfl)))
    | ((refine ⟨?hx, ?_⟩); (case hx => decide); conv => whnf)
    | ((with_reducible refine k_seq ?_))
    | (have hF : (none : Option _) = some _ := hF; cases hF))
end
end Go.Vc
namespace Go.Vc
open Go.Proofs
set_option linter.unusedVariables false
set_option linter.unnecessarySimpa false
set_option linter.unusedSimpArgs false
section
variable {c : Ctx} {p nid : Nat} {a b : Code} {st : St} {K : Ex → St → Prop}
/- f83: slices.Concat[[]int,int] -/
def f83_c15 (newslice6' : List Int) : Option ((List Int)) :=
 some (newslice6')
def Sf83_c15 : Ann := ⟨[6], [90006], [(.slot 6, 90006, 3, 1)], []⟩
def Vf83_c15 (newslice6' : List Int) : List SV := [.rs 90006 (List.length (newslice6'))]
def Bf83_c15 (newslice6' : List Int) : List Blk := [.row 3 1 (List.map iN (newslice6'))]
def Yf83_c15 (y : (List Int)) : List SV := Vf83_c15 y
def Xf83_c15 (y : (List Int)) : List Blk := Bf83_c15 y
def Jf83_c15 (r : (List Int)) (y : (List Int)) : Prop := f83_c15 y = some r
def V2f83_c15 (newslice6' : List Int) (m0 : Nat) : List SV := [.rs 90006 m0]
def B2f83_c15 (newslice6' : List Int) (m0 : Nat) : List Blk := [.row 3 1 (List.map iN (newslice6'))]
theorem Cf83_c15 {r : (List Int)} {g : _ → Option ((List Int))} (hn : Nat.beq (nid * 1000 + firstRegion b) 15 = true) (hz : Sf83_c15.ok p = true) (h : g f83_c15 = some r → vc c p nid a st (KHead Sf83_c15 Yf83_c15 Xf83_c15 (Jf83_c15 r) K)) (h2 : ∀ (newslice6' : List Int), f83_c15 newslice6' = some r → vc c p nid b (St.mk' Sf83_c15 (Vf83_c15 newslice6') (Bf83_c15 newslice6')) K) (hF : joinK f83_c15 g = some r) : vc c p nid (.seq a b) st K :=
  vc_cut Sf83_c15 Yf83_c15 Xf83_c15 (Jf83_c15 r) hz (h hF) fun y hy => h2 y hy
theorem Zf83_c15 {r : (List Int)} {newslice6' : List Int} {m0 : Nat} (hF : f83_c15 newslice6' = some r) (h0 : AtH Sf83_c15 st (V2f83_c15 newslice6' m0) (B2f83_c15 newslice6' m0)) (em0 : m0 = List.length (newslice6')) : KHead Sf83_c15 Yf83_c15 Xf83_c15 (Jf83_c15 r) K .normal st := by
  subst em0; exact khead (I := (Jf83_c15 r)) (x := (newslice6')) hF h0
def f83_11b (r11 : (List Int) → Int → Option ((List Int))) (a0 : List (List Int)) (k0 : (List Int) → Option ((List Int))) (newslice6' : List Int) (v27 : Int) : Option ((List Int)) :=
 bif decide (v27 < (List.length a0 : Int)) then ((ix a0 v27).bind fun x1 =>
 (app 8 (newslice6') x1).bind fun x2 =>
 r11 x2 (W (v27 + (1 : Int))))
 else (k0 (newslice6'))
def f83_11 (a0 : List (List Int)) (k0 : (List Int) → Option ((List Int))) : Nat → (List Int) → Int → Option ((List Int))
  | 0, _, _ => none
  | n + 1, newslice6', v27 => f83_11b (f83_11 a0 k0 n) a0 k0 newslice6' v27
def Sf83_11 : Ann := ⟨[6, 25, 26, 27], [90006], [(.slot 6, 90006, 3, 1)], []⟩
def Vf83_11 (a0 : List (List Int)) (newslice6' : List Int) (v27 : Int) : List SV := [.rs 90006 (List.length (newslice6')), .dat (sl_sl_iN a0), .dat (iN (List.length a0 : Int)), .dat (iN v27)]
def Bf83_11 (a0 : List (List Int)) (newslice6' : List Int) (v27 : Int) : List Blk := [.row 3 1 (List.map iN (newslice6'))]
def Yf83_11 (a0 : List (List Int)) (y : Nat × (List Int) × Int) : List SV := Vf83_11 a0 y.2.1 y.2.2
def Xf83_11 (a0 : List (List Int)) (y : Nat × (List Int) × Int) : List Blk := Bf83_11 a0 y.2.1 y.2.2
def Jf83_11 (a0 : List (List Int)) (k0 : (List Int) → Option ((List Int))) (r : (List Int)) (y : Nat × (List Int) × Int) : Prop := f83_11 a0 k0 y.1 y.2.1 y.2.2 = some r
def V2f83_11 (a0 : List (List Int)) (newslice6' : List Int) (v27 : Int) (m0 : Nat) : List SV := [.rs 90006 m0, .dat (sl_sl_iN a0), .dat (iN (List.length a0 : Int)), .dat (iN v27)]
def B2f83_11 (a0 : List (List Int)) (newslice6' : List Int) (v27 : Int) (m0 : Nat) : List Blk := [.row 3 1 (List.map iN (newslice6'))]
theorem Lf83_11 {r : (List Int)} {a0 : List (List Int)} {k0 : (List Int) → Option ((List Int))} {fu : Nat} {newslice6' : List Int} {v27 : Int} {m0 : Nat} (hz : Sf83_11.ok p = true) (h0 : AtH Sf83_11 st (V2f83_11 a0 newslice6' v27 m0) (B2f83_11 a0 newslice6' v27 m0)) (em0 : m0 = List.length (newslice6')) (h : ∀ (n : Nat) (newslice6' : List Int) (v27 : Int), f83_11b (f83_11 a0 k0 n) a0 k0 newslice6' v27 = some r → vc c p nid a (St.mk' Sf83_11 (Vf83_11 a0 newslice6' v27) (Bf83_11 a0 newslice6' v27)) (Kloop Sf83_11 (Yf83_11 a0) (Xf83_11 a0) (Jf83_11 a0 k0 r) Prod.fst (n + 1, newslice6', v27) K)) (hF : f83_11 a0 k0 fu newslice6' v27 = some r) : vc c p nid (.loop a) st K := by
  subst em0; refine vc_loop Sf83_11 (Yf83_11 a0) (Xf83_11 a0) (Jf83_11 a0 k0 r) Prod.fst hz (kheadL (x := (fu, newslice6', v27)) hF h0) ?_
  rintro ⟨_ | n, newslice6', v27⟩ hI
  · cases hI
  · exact h n newslice6' v27 hI
theorem Mf83_11 {r : (List Int)} {a0 : List (List Int)} {k0 : (List Int) → Option ((List Int))} {n : Nat} {newslice6' : List Int} {v27 : Int} {newslice6'_ : List Int} {v27_ : Int} {m0 : Nat} (hF : f83_11 a0 k0 n newslice6' v27 = some r) (h0 : AtH Sf83_11 st (V2f83_11 a0 newslice6' v27 m0) (B2f83_11 a0 newslice6' v27 m0)) (em0 : m0 = List.length (newslice6')) : Kloop Sf83_11 (Yf83_11 a0) (Xf83_11 a0) (Jf83_11 a0 k0 r) Prod.fst (n + 1, newslice6'_, v27_) K .normal st := by
  subst em0; exact kback (y := (n, newslice6', v27)) hF (Nat.lt_succ_self n) h0
def f83_c10 (a0 : List (List Int)) (N : Nat) (newslice6 : List Int) : Option ((List Int)) :=
 joinK f83_c15 fun k0 =>
 f83_11 a0 k0 N newslice6 (0 : Int)
def Sf83_c10 : Ann := ⟨[0, 6], [90006], [(.slot 6, 90006, 3, 1)], []⟩
def Vf83_c10 (a0 : List (List Int)) (newslice6 : List Int) : List SV := [.dat (sl_sl_iN a0), .rs 90006 (List.length newslice6)]
def Bf83_c10 (a0 : List (List Int)) (newslice6 : List Int) : List Blk := [.row 3 1 (List.map iN newslice6)]
def Yf83_c10 (a0 : List (List Int)) (y : (List Int)) : List SV := Vf83_c10 a0 y
def Xf83_c10 (a0 : List (List Int)) (y : (List Int)) : List Blk := Bf83_c10 a0 y
def Jf83_c10 (a0 : List (List Int)) (N : Nat) (r : (List Int)) (y : (List Int)) : Prop := f83_c10 a0 N y = some r
def V2f83_c10 (a0 : List (List Int)) (newslice6 : List Int) (m0 : Nat) : List SV := [.dat (sl_sl_iN a0), .rs 90006 m0]
def B2f83_c10 (a0 : List (List Int)) (newslice6 : List Int) (m0 : Nat) : List Blk := [.row 3 1 (List.map iN newslice6)]
theorem Cf83_c10 {r : (List Int)} {a0 : List (List Int)} {N : Nat} {g : _ → Option ((List Int))} (hn : Nat.beq (nid * 1000 + firstRegion b) 10 = true) (hz : Sf83_c10.ok p = true) (h : g (f83_c10 a0 N) = some r → vc c p nid a st (KHead Sf83_c10 (Yf83_c10 a0) (Xf83_c10 a0) (Jf83_c10 a0 N r) K)) (h2 : ∀ (newslice6 : List Int), f83_c10 a0 N newslice6 = some r → vc c p nid b (St.mk' Sf83_c10 (Vf83_c10 a0 newslice6) (Bf83_c10 a0 newslice6)) K) (hF : joinK (f83_c10 a0 N) g = some r) : vc c p nid (.seq a b) st K :=
  vc_cut Sf83_c10 (Yf83_c10 a0) (Xf83_c10 a0) (Jf83_c10 a0 N r) hz (h hF) fun y hy => h2 y hy
theorem Zf83_c10 {r : (List Int)} {a0 : List (List Int)} {N : Nat} {newslice6 : List Int} {m0 : Nat} (hF : f83_c10 a0 N newslice6 = some r) (h0 : AtH Sf83_c10 st (V2f83_c10 a0 newslice6 m0) (B2f83_c10 a0 newslice6 m0)) (em0 : m0 = List.length newslice6) : KHead Sf83_c10 (Yf83_c10 a0) (Xf83_c10 a0) (Jf83_c10 a0 N r) K .normal st := by
  subst em0; exact khead (I := (Jf83_c10 a0 N r)) (x := (newslice6)) hF h0
def f83_c9 (a0 : List (List Int)) (N : Nat) (size3 : Int) : Option ((List Int)) :=
 joinK (f83_c10 a0 N) fun k1 =>
 bif decide (size3 < (0 : Int)) then none
 else (bif decide ((0 : Int) < (W (size3 - (W ((0 : Int) - (0 : Int)))))) then ((mkA 8 (0 : Int) (W (size3 - (W ((0 : Int) - (0 : Int)))))).bind fun x3 =>
 (subR x3 0 (0 : Int)).bind fun x4 =>
 k1 x4)
 else (k1 []))
def Sf83_c9 : Ann := ⟨[0, 3], [], [], []⟩
def Vf83_c9 (a0 : List (List Int)) (size3 : Int) : List SV := [.dat (sl_sl_iN a0), .dat (iN size3)]
def Bf83_c9 (a0 : List (List Int)) (size3 : Int) : List Blk := []
def Yf83_c9 (a0 : List (List Int)) (y : Int) : List SV := Vf83_c9 a0 y
def Xf83_c9 (a0 : List (List Int)) (y : Int) : List Blk := Bf83_c9 a0 y
def Jf83_c9 (a0 : List (List Int)) (N : Nat) (r : (List Int)) (y : Int) : Prop := f83_c9 a0 N y = some r
theorem Cf83_c9 {r : (List Int)} {a0 : List (List Int)} {N : Nat} {g : _ → Option ((List Int))} (hn : Nat.beq (nid * 1000 + firstRegion b) 9 = true) (hz : Sf83_c9.ok p = true) (h : g (f83_c9 a0 N) = some r → vc c p nid a st (KHead Sf83_c9 (Yf83_c9 a0) (Xf83_c9 a0) (Jf83_c9 a0 N r) K)) (h2 : ∀ (size3 : Int), f83_c9 a0 N size3 = some r → vc c p nid b (St.mk' Sf83_c9 (Vf83_c9 a0 size3) (Bf83_c9 a0 size3)) K) (hF : joinK (f83_c9 a0 N) g = some r) : vc c p nid (.seq a b) st K :=
  vc_cut Sf83_c9 (Yf83_c9 a0) (Xf83_c9 a0) (Jf83_c9 a0 N r) hz (h hF) fun y hy => h2 y hy
theorem Zf83_c9 {r : (List Int)} {a0 : List (List Int)} {N : Nat} {size3 : Int} (hF : f83_c9 a0 N size3 = some r) (h0 : AtH Sf83_c9 st (Vf83_c9 a0 size3) (Bf83_c9 a0 size3)) : KHead Sf83_c9 (Yf83_c9 a0) (Xf83_c9 a0) (Jf83_c9 a0 N r) K .normal st := by
  exact khead (I := (Jf83_c9 a0 N r)) (x := (size3)) hF h0
def f83_3b (r3 : Int → Int → Option ((List Int))) (a0 : List (List Int)) (k2 : Int → Option ((List Int))) (size3 : Int) (v11 : Int) : Option ((List Int)) :=
 bif decide (v11 < (List.length a0 : Int)) then ((ix a0 v11).bind fun x5 =>
 bif decide ((W (size3 + (List.length x5 : Int))) < (0 : Int)) then none
 else (r3 (W (size3 + (List.length x5 : Int))) (W (v11 + (1 : Int)))))
 else (k2 size3)
def f83_3 (a0 : List (List Int)) (k2 : Int → Option ((List Int))) : Nat → Int → Int → Option ((List Int))
  | 0, _, _ => none
  | n + 1, size3, v11 => f83_3b (f83_3 a0 k2 n) a0 k2 size3 v11
def Sf83_3 : Ann := ⟨[0, 3, 9, 10, 11], [], [], []⟩
def Vf83_3 (a0 : List (List Int)) (size3 : Int) (v11 : Int) : List SV := [.dat (sl_sl_iN a0), .dat (iN size3), .dat (sl_sl_iN a0), .dat (iN (List.length a0 : Int)), .dat (iN v11)]
def Bf83_3 (a0 : List (List Int)) (size3 : Int) (v11 : Int) : List Blk := []
def Yf83_3 (a0 : List (List Int)) (y : Nat × Int × Int) : List SV := Vf83_3 a0 y.2.1 y.2.2
def Xf83_3 (a0 : List (List Int)) (y : Nat × Int × Int) : List Blk := Bf83_3 a0 y.2.1 y.2.2
def Jf83_3 (a0 : List (List Int)) (k2 : Int → Option ((List Int))) (r : (List Int)) (y : Nat × Int × Int) : Prop := f83_3 a0 k2 y.1 y.2.1 y.2.2 = some r
theorem Lf83_3 {r : (List Int)} {a0 : List (List Int)} {k2 : Int → Option ((List Int))} {fu : Nat} {size3 : Int} {v11 : Int} (hz : Sf83_3.ok p = true) (h0 : AtH Sf83_3 st (Vf83_3 a0 size3 v11) (Bf83_3 a0 size3 v11)) (h : ∀ (n : Nat) (size3 : Int) (v11 : Int), f83_3b (f83_3 a0 k2 n) a0 k2 size3 v11 = some r → vc c p nid a (St.mk' Sf83_3 (Vf83_3 a0 size3 v11) (Bf83_3 a0 size3 v11)) (Kloop Sf83_3 (Yf83_3 a0) (Xf83_3 a0) (Jf83_3 a0 k2 r) Prod.fst (n + 1, size3, v11) K)) (hF : f83_3 a0 k2 fu size3 v11 = some r) : vc c p nid (.loop a) st K := by
  refine vc_loop Sf83_3 (Yf83_3 a0) (Xf83_3 a0) (Jf83_3 a0 k2 r) Prod.fst hz (kheadL (x := (fu, size3, v11)) hF h0) ?_
  rintro ⟨_ | n, size3, v11⟩ hI
  · cases hI
  · exact h n size3 v11 hI
theorem Mf83_3 {r : (List Int)} {a0 : List (List Int)} {k2 : Int → Option ((List Int))} {n : Nat} {size3 : Int} {v11 : Int} {size3_ : Int} {v11_ : Int} (hF : f83_3 a0 k2 n size3 v11 = some r) (h0 : AtH Sf83_3 st (Vf83_3 a0 size3 v11) (Bf83_3 a0 size3 v11)) : Kloop Sf83_3 (Yf83_3 a0) (Xf83_3 a0) (Jf83_3 a0 k2 r) Prod.fst (n + 1, size3_, v11_) K .normal st := by
  exact kback (y := (n, size3, v11)) hF (Nat.lt_succ_self n) h0
def f83 (N : Nat) (a0 : List (List Int)) : Option ((List Int)) :=
 joinK (f83_c9 a0 N) fun k2 =>
 f83_3 a0 k2 N (0 : Int) (0 : Int)
def G83 (ds : List D) (d : D) : Prop := ∃ (N : Nat) (a0 : List (List Int)) (r : (List Int)), ds = [sl_sl_iN a0] ∧ f83 N a0 = some r ∧ d = sl_iN r
theorem G83.step {N : Nat} {a0 : List (List Int)} {ρ : Type} {A : (List Int) → Option ρ} {q : ρ} {ds : List D} {K : D → Prop} (hd : ds = [sl_sl_iN a0]) (h : ∀ r, A r = some q → K (sl_iN r)) (hF : (f83 N a0).bind A = some q) : ∃ d, G83 ds d ∧ K d := by
  obtain ⟨r, hr, hA⟩ := bind_some hF
  exact ⟨_, ⟨N, a0, r, hd, hr, rfl⟩, h r hA⟩
set_option maxRecDepth 20000 in
set_option maxHeartbeats 4000000 in
theorem P83 : PureOK Try.prog 83 G83 := by
  refine pure_of_vc (c := mkCtx tyTree [(94, false, inlPg (mkCtx tyTree []) Try.f94)]) rfl tyOK (ctx_eff (callable Try.func94 rfl rfl) (CallOK.inl rfl tyOK (ctx_nil) Try.func94 (by kernel_rfl)) (ctx_nil)) [[1]] 1 Try.func83 rfl rfl (by decide) (by kernel_rfl) ?_
  rintro ds d ⟨N, a0, r, rfl, hF, rfl⟩ hok
  clear hok
  refine ⟨rfl, ?_⟩
  show vc _ _ _ _ ⟨[(0, .dat (sl_sl_iN a0))], []⟩ _
  unfold f83 at hF
  repeat' (first
    | ((with_reducible refine q0 _ _ ?_); clear Q q0 q1 q2)
    | ((with_reducible refine q1 _ _ _ _ ?_); clear Q q0 q1 q2)
    | ((with_reducible refine q2 _ _ _ ?_); clear Q q0 q1 q2)
    | ((with_reducible refine seq_op ?hx (fun Q q0 q1 q2 => ?_)); (case hx => exact rfl); conv => whnf)
    | ((with_reducible refine seq_op0 ?hx (fun Q q0 q1 q2 => ?_)); (case hx => exact rfl); conv => whnf)
    | ((with_reducible refine cond_id ?_); (first | ((refine condKT rfl ?hy ?_); (case hy => first | assumption | exact notT (by assumption) | exact rfl)) | ((refine condKF rfl ?hy ?_); (case hy => first | assumption | exact notF (by assumption) | exact rfl)) | (revert hF; (with_reducible refine condF ?hx ?_ ?_); (case hx => exact rfl); all_goals (intro hc hF))))
    | ((with_reducible refine seq_nil ?_); (first | ((with_reducible refine hR _ ?_); clear R hR) | ((with_reducible refine hL _ ?_); clear L hL)))
    | ((with_reducible refine int_step ?_); conv => whnf)
    | ((with_reducible refine len_step ?_); conv => whnf)
    | ((with_reducible refine idx2 (by assumption) ?_); conv => whnf)
    | ((with_reducible refine idx3 (by assumption) ?_); conv => whnf)
    | with_reducible refine vc_block ?_
    | with_reducible refine vc_skip ?_
    | with_reducible refine vc_ret ?_
    | with_reducible refine vc_exit ?_
    | ((with_reducible refine vc_seqN [15, 10, 9] ?hx ?_); (case hx => exact rfl))
    | (with_reducible refine vc_region (fun R hR => ?_))
    | fail
    | (revert hF; (refine Cf83_c15 rfl rfl ?_ ?_); (intro hF); rotate_left; (intro newslice6' hF; unfold f83_c15 at hF); rotate_right)
    | exact Zf83_c15 hF ⟨_, rfl, rfl, rfl, rfl⟩ (by first | exact rfl | assumption | omega)
    | (revert hF; (refine Lf83_11 rfl ⟨_, rfl, rfl, rfl, rfl⟩ (by first | exact rfl | assumption | omega) ?_); intro n newslice6' v27 hF; unfold f83_11b at hF)
    | exact Mf83_11 hF ⟨_, rfl, rfl, rfl, rfl⟩ (by first | exact rfl | assumption | omega)
    | (revert hF; (refine Cf83_c10 rfl rfl ?_ ?_); (intro hF); rotate_left; (intro newslice6 hF; unfold f83_c10 at hF); rotate_right)
    | exact Zf83_c10 hF ⟨_, rfl, rfl, rfl, rfl⟩ (by first | exact rfl | assumption | omega)
    | (revert hF; (refine Cf83_c9 rfl rfl ?_ ?_); (intro hF); rotate_left; (intro size3 hF; unfold f83_c9 at hF); rotate_right)
    | exact Zf83_c9 hF ⟨_, rfl, rfl, rfl, rfl⟩
    | (revert hF; (refine Lf83_3 rfl ⟨_, rfl, rfl, rfl, rfl⟩ ?_); intro n size3 v11 hF; unfold f83_3b at hF)
    | exact Mf83_3 hF ⟨_, rfl, rfl, rfl, rfl⟩
    | (revert hF; (refine mkS_row (d := iN) ?hz ?_); (case hz => exact rfl); intro x hF; conv => whnf)
    | (revert hF; (refine mkA_row (d := iN) ?hz ?_); (case hz => exact rfl); intro x hF; conv => whnf)
    | with_reducible refine k_seq_ret ?_
    | with_reducible refine k_seq_exit ?_
    | with_reducible refine k_blk ?_
    | with_reducible refine k_blk_ret ?_
    | with_reducible refine k_blk_here ?_
    | ((with_reducible refine k_blk_out ?hx ?_); (case hx => exact rfl))
    | with_reducible refine k_loop_ret ?_
    | with_reducible refine k_loop_exit ?_
    | (revert hF; (with_reducible refine idx1 ?hn ?_); (case hn => first | exact rfl | exact (List.length_map _) | assumption | omega | simp); intro x hx hF; conv => whnf)
    | ((with_reducible have hG := subR_fact hF); clear hF; (refine Or.inl ?_); (conv => whnf); (refine subrow_step hG ?hn (fun q hF => ?_); (case hn => first | exact rfl | assumption | omega)); clear hG; conv => whnf)
    | ((with_reducible have hG := app_fact hF); clear hF; (first | ((refine app_row hG ?hn ?hs (fun q hF => ?_)); (case hn => first | exact rfl | assumption | omega); (case hs => exact rfl)) | ((refine app_nil (d := iN) hG ?hs (fun q hF => ?_)); (case hs => exact rfl)) | ((refine app_gen (d := iN) hG ?ho ?hn ?hs (fun q hF => ?_)); (case ho => exact rfl); (case hn => exact rfl); (case hs => exact rfl))); clear hG; conv => whnf)
    | ((refine row_all ?hn ?_); (case hn => first | exact rfl | (simp; done) | (simp; omega)); conv => whnf)
    | ((with_reducible refine le_step ?hn ?_); (case hn => first | exact rfl | assumption | omega); conv => whnf)
    | ((refine ⟨?hx, ?_⟩); (case hx => exact ⟨rfl, Nat.le_of_ble_eq_true rfl, rfl⟩); conv => whnf)
    | ((with_reducible refine ex_step ?_); conv => whnf)
    | ((with_reducible refine both_T ?hx ?_); (case hx => first | exact rfl | assumption | exact notT (by assumption)); conv => whnf)
    | ((with_reducible refine both_F ?hx ?_); (case hx => first | exact rfl | assumption | exact notF (by assumption)); conv => whnf)
    | (revert hF; (with_reducible refine ite_step ?_ ?_) <;> (intro hc hF; conv => whnf))
    | ((with_reducible refine vc_condT ?hx ?_); (case hx => exact rfl))
    | ((with_reducible refine vc_condF ?hx ?_); (case hx => exact rfl))
    | (show retD _ _ _ _ _ _; conv => whnf)
    | ((refine inl_step ?ha ?hb ?hc rfl ?_); (case ha => exact rfl); (case hb => omega); (case hc => exact Nat.le_of_ble_eq_true rfl))
    | (show Kinl _ _ _ _ _ _ _; conv => whnf)
    | ((with_reducible refine kinl_step ?ha ?hb ?_); (case ha => exact rfl); (case hb => exact rfl); conv => whnf)
    | ((refine ⟨?hx, trivial⟩); (case hx => (cases hF; exact rfl)))
    | ((refine ⟨?hx, ?_⟩); (case hx => decide); conv => whnf)
    | ((with_reducible refine k_seq ?_))
    | (have hF : (none : Option _) = some _ := hF; cases hF))
end
end Go.Vc
namespace Go.Vc
open Go.Proofs
set_option linter.unusedVariables false
set_option linter.unnecessarySimpa false
set_option linter.unusedSimpArgs false
section
variable {c : Ctx} {p nid : Nat} {a b : Code} {st : St} {K : Ex → St → Prop}
/- f85: tusche/serial.again -/
def f85_c15 (twice3 : Bool) : Option (Bool) :=
 some (twice3)
def Sf85_c15 : Ann := ⟨[3], [], [], []⟩
def Vf85_c15 (twice3 : Bool) : List SV := [.kb twice3]
def Bf85_c15 (twice3 : Bool) : List Blk := []
def Yf85_c15 (y : Bool) : List SV := Vf85_c15 y
def Xf85_c15 (y : Bool) : List Blk := Bf85_c15 y
def Jf85_c15 (r : Bool) (y : Bool) : Prop := f85_c15 y = some r
theorem Cf85_c15 {r : Bool} {g : _ → Option (Bool)} (hn : Nat.beq (nid * 1000 + firstRegion b) 15 = true) (hz : Sf85_c15.ok p = true) (h : g f85_c15 = some r → vc c p nid a st (KHead Sf85_c15 Yf85_c15 Xf85_c15 (Jf85_c15 r) K)) (h2 : ∀ (twice3 : Bool), f85_c15 twice3 = some r → vc c p nid b (St.mk' Sf85_c15 (Vf85_c15 twice3) (Bf85_c15 twice3)) K) (hF : joinK f85_c15 g = some r) : vc c p nid (.seq a b) st K :=
  vc_cut Sf85_c15 Yf85_c15 Xf85_c15 (Jf85_c15 r) hz (h hF) fun y hy => h2 y hy
theorem Zf85_c15 {r : Bool} {twice3 : Bool} (hF : f85_c15 twice3 = some r) (h0 : AtH Sf85_c15 st (Vf85_c15 twice3) (Bf85_c15 twice3)) : KHead Sf85_c15 Yf85_c15 Xf85_c15 (Jf85_c15 r) K .normal st := by
  exact khead (I := (Jf85_c15 r)) (x := (twice3)) hF h0
def f85_c14 (a0 : List (List Int)) (v12 : Int) (r3 : Bool → Int → Option (Bool)) (twice3' : Bool) : Option (Bool) :=
 r3 (twice3') (W (v12 + (1 : Int)))
def Sf85_c14 : Ann := ⟨[0, 3, 11, 12], [], [], []⟩
def Vf85_c14 (a0 : List (List Int)) (v12 : Int) (twice3' : Bool) : List SV := [.dat (sl_sl_iN a0), .kb (twice3'), .dat (iN (List.length a0 : Int)), .dat (iN v12)]
def Bf85_c14 (a0 : List (List Int)) (v12 : Int) (twice3' : Bool) : List Blk := []
def Yf85_c14 (a0 : List (List Int)) (v12 : Int) (y : Bool) : List SV := Vf85_c14 a0 v12 y
def Xf85_c14 (a0 : List (List Int)) (v12 : Int) (y : Bool) : List Blk := Bf85_c14 a0 v12 y
def Jf85_c14 (a0 : List (List Int)) (v12 : Int) (r3 : Bool → Int → Option (Bool)) (r : Bool) (y : Bool) : Prop := f85_c14 a0 v12 r3 y = some r
theorem Cf85_c14 {r : Bool} {a0 : List (List Int)} {v12 : Int} {r3 : Bool → Int → Option (Bool)} {g : _ → Option (Bool)} (hn : Nat.beq (nid * 1000 + firstRegion b) 14 = true) (hz : Sf85_c14.ok p = true) (h : g (f85_c14 a0 v12 r3) = some r → vc c p nid a st (KHead Sf85_c14 (Yf85_c14 a0 v12) (Xf85_c14 a0 v12) (Jf85_c14 a0 v12 r3 r) K)) (h2 : ∀ (twice3' : Bool), f85_c14 a0 v12 r3 twice3' = some r → vc c p nid b (St.mk' Sf85_c14 (Vf85_c14 a0 v12 twice3') (Bf85_c14 a0 v12 twice3')) K) (hF : joinK (f85_c14 a0 v12 r3) g = some r) : vc c p nid (.seq a b) st K :=
  vc_cut Sf85_c14 (Yf85_c14 a0 v12) (Xf85_c14 a0 v12) (Jf85_c14 a0 v12 r3 r) hz (h hF) fun y hy => h2 y hy
theorem Zf85_c14 {r : Bool} {a0 : List (List Int)} {v12 : Int} {r3 : Bool → Int → Option (Bool)} {twice3' : Bool} (hF : f85_c14 a0 v12 r3 twice3' = some r) (h0 : AtH Sf85_c14 st (Vf85_c14 a0 v12 twice3') (Bf85_c14 a0 v12 twice3')) : KHead Sf85_c14 (Yf85_c14 a0 v12) (Xf85_c14 a0 v12) (Jf85_c14 a0 v12 r3 r) K .normal st := by
  exact khead (I := (Jf85_c14 a0 v12 r3 r)) (x := (twice3')) hF h0
def f85_7b (r7 : Bool → Int → (List Bool) → (List Bool) → Option (Bool)) (a0 : List (List Int)) (k0 : Bool → Option (Bool)) (v12 : Int) (k1 : Bool → Option (Bool)) (twice3' : Bool) (v17 : Int) (b500 : List Bool) (b501 : List Bool) : Option (Bool) :=
 bif decide (v17 < (List.length a0 : Int)) then ((ix a0 v12).bind fun x1 =>
 (ix x1 v17).bind fun x2 =>
 (ix a0 v17).bind fun x3 =>
 (ix x3 v12).bind fun x4 =>
 (chkI 10 x2).bind fun _ =>
 (ixN b500 (Int.toNat x2)).bind fun x5 =>
 bif x5 then (k0 true)
 else ((chkI 10 x4).bind fun _ =>
 (ixN b501 (Int.toNat x4)).bind fun x6 =>
 bif x6 then (k0 true)
 else ((chkI 10 x2).bind fun _ =>
 (setN b500 (Int.toNat x2) true).bind fun x7 =>
 (chkI 10 x4).bind fun _ =>
 (setN b501 (Int.toNat x4) true).bind fun x8 =>
 r7 (twice3') (W (v17 + (1 : Int))) x7 x8)))
 else (k1 (twice3'))
def f85_7 (a0 : List (List Int)) (k0 : Bool → Option (Bool)) (v12 : Int) (k1 : Bool → Option (Bool)) : Nat → Bool → Int → (List Bool) → (List Bool) → Option (Bool)
  | 0, _, _, _, _ => none
  | n + 1, twice3', v17, b500, b501 => f85_7b (f85_7 a0 k0 v12 k1 n) a0 k0 v12 k1 twice3' v17 b500 b501
def Sf85_7 : Ann := ⟨[0, 3, 4, 5, 6, 11, 12, 16, 17], [500, 501], [], []⟩
def Vf85_7 (a0 : List (List Int)) (v12 : Int) (twice3' : Bool) (v17 : Int) (b500 : List Bool) (b501 : List Bool) : List SV := [.dat (sl_sl_iN a0), .kb (twice3'), .dat (iN v12), .ptr 500 0, .ptr 501 0, .dat (iN (List.length a0 : Int)), .dat (iN v12), .dat (iN (List.length a0 : Int)), .dat (iN v17)]
def Bf85_7 (a0 : List (List Int)) (v12 : Int) (twice3' : Bool) (v17 : Int) (b500 : List Bool) (b501 : List Bool) : List Blk := [.arr (List.map bN b500), .arr (List.map bN b501)]
def Yf85_7 (a0 : List (List Int)) (v12 : Int) (y : Nat × Bool × Int × (List Bool) × (List Bool)) : List SV := Vf85_7 a0 v12 y.2.1 y.2.2.1 y.2.2.2.1 y.2.2.2.2
def Xf85_7 (a0 : List (List Int)) (v12 : Int) (y : Nat × Bool × Int × (List Bool) × (List Bool)) : List Blk := Bf85_7 a0 v12 y.2.1 y.2.2.1 y.2.2.2.1 y.2.2.2.2
def Jf85_7 (a0 : List (List Int)) (k0 : Bool → Option (Bool)) (v12 : Int) (k1 : Bool → Option (Bool)) (r : Bool) (y : Nat × Bool × Int × (List Bool) × (List Bool)) : Prop := f85_7 a0 k0 v12 k1 y.1 y.2.1 y.2.2.1 y.2.2.2.1 y.2.2.2.2 = some r
theorem Lf85_7 {r : Bool} {a0 : List (List Int)} {k0 : Bool → Option (Bool)} {v12 : Int} {k1 : Bool → Option (Bool)} {fu : Nat} {twice3' : Bool} {v17 : Int} {b500 : List Bool} {b501 : List Bool} (hz : Sf85_7.ok p = true) (h0 : AtH Sf85_7 st (Vf85_7 a0 v12 twice3' v17 b500 b501) (Bf85_7 a0 v12 twice3' v17 b500 b501)) (h : ∀ (n : Nat) (twice3' : Bool) (v17 : Int) (b500 : List Bool) (b501 : List Bool), f85_7b (f85_7 a0 k0 v12 k1 n) a0 k0 v12 k1 twice3' v17 b500 b501 = some r → vc c p nid a (St.mk' Sf85_7 (Vf85_7 a0 v12 twice3' v17 b500 b501) (Bf85_7 a0 v12 twice3' v17 b500 b501)) (Kloop Sf85_7 (Yf85_7 a0 v12) (Xf85_7 a0 v12) (Jf85_7 a0 k0 v12 k1 r) Prod.fst (n + 1, twice3', v17, b500, b501) K)) (hF : f85_7 a0 k0 v12 k1 fu twice3' v17 b500 b501 = some r) : vc c p nid (.loop a) st K := by
  refine vc_loop Sf85_7 (Yf85_7 a0 v12) (Xf85_7 a0 v12) (Jf85_7 a0 k0 v12 k1 r) Prod.fst hz (kheadL (x := (fu, twice3', v17, b500, b501)) hF h0) ?_
  rintro ⟨_ | n, twice3', v17, b500, b501⟩ hI
  · cases hI
  · exact h n twice3' v17 b500 b501 hI
theorem Mf85_7 {r : Bool} {a0 : List (List Int)} {k0 : Bool → Option (Bool)} {v12 : Int} {k1 : Bool → Option (Bool)} {n : Nat} {twice3' : Bool} {v17 : Int} {b500 : List Bool} {b501 : List Bool} {twice3'_ : Bool} {v17_ : Int} {b500_ : List Bool} {b501_ : List Bool} (hF : f85_7 a0 k0 v12 k1 n twice3' v17 b500 b501 = some r) (h0 : AtH Sf85_7 st (Vf85_7 a0 v12 twice3' v17 b500 b501) (Bf85_7 a0 v12 twice3' v17 b500 b501)) : Kloop Sf85_7 (Yf85_7 a0 v12) (Xf85_7 a0 v12) (Jf85_7 a0 k0 v12 k1 r) Prod.fst (n + 1, twice3'_, v17_, b500_, b501_) K .normal st := by
  exact kback (y := (n, twice3', v17, b500, b501)) hF (Nat.lt_succ_self n) h0
def f85_3b (r3 : Bool → Int → Option (Bool)) (a0 : List (List Int)) (N : Nat) (k0 : Bool → Option (Bool)) (twice3 : Bool) (v12 : Int) : Option (Bool) :=
 bif decide (v12 < (List.length a0 : Int)) then (joinK (f85_c14 a0 v12 r3) fun k1 =>
 f85_7 a0 k0 v12 k1 N twice3 (0 : Int) (List.replicate 10 false) (List.replicate 10 false))
 else (k0 twice3)
def f85_3 (a0 : List (List Int)) (N : Nat) (k0 : Bool → Option (Bool)) : Nat → Bool → Int → Option (Bool)
  | 0, _, _ => none
  | n + 1, twice3, v12 => f85_3b (f85_3 a0 N k0 n) a0 N k0 twice3 v12
def Sf85_3 : Ann := ⟨[0, 3, 11, 12], [], [], []⟩
def Vf85_3 (a0 : List (List Int)) (twice3 : Bool) (v12 : Int) : List SV := [.dat (sl_sl_iN a0), .kb twice3, .dat (iN (List.length a0 : Int)), .dat (iN v12)]
def Bf85_3 (a0 : List (List Int)) (twice3 : Bool) (v12 : Int) : List Blk := []
def Yf85_3 (a0 : List (List Int)) (y : Nat × Bool × Int) : List SV := Vf85_3 a0 y.2.1 y.2.2
def Xf85_3 (a0 : List (List Int)) (y : Nat × Bool × Int) : List Blk := Bf85_3 a0 y.2.1 y.2.2
def Jf85_3 (a0 : List (List Int)) (N : Nat) (k0 : Bool → Option (Bool)) (r : Bool) (y : Nat × Bool × Int) : Prop := f85_3 a0 N k0 y.1 y.2.1 y.2.2 = some r
theorem Lf85_3 {r : Bool} {a0 : List (List Int)} {N : Nat} {k0 : Bool → Option (Bool)} {fu : Nat} {twice3 : Bool} {v12 : Int} (hz : Sf85_3.ok p = true) (h0 : AtH Sf85_3 st (Vf85_3 a0 twice3 v12) (Bf85_3 a0 twice3 v12)) (h : ∀ (n : Nat) (twice3 : Bool) (v12 : Int), f85_3b (f85_3 a0 N k0 n) a0 N k0 twice3 v12 = some r → vc c p nid a (St.mk' Sf85_3 (Vf85_3 a0 twice3 v12) (Bf85_3 a0 twice3 v12)) (Kloop Sf85_3 (Yf85_3 a0) (Xf85_3 a0) (Jf85_3 a0 N k0 r) Prod.fst (n + 1, twice3, v12) K)) (hF : f85_3 a0 N k0 fu twice3 v12 = some r) : vc c p nid (.loop a) st K := by
  refine vc_loop Sf85_3 (Yf85_3 a0) (Xf85_3 a0) (Jf85_3 a0 N k0 r) Prod.fst hz (kheadL (x := (fu, twice3, v12)) hF h0) ?_
  rintro ⟨_ | n, twice3, v12⟩ hI
  · cases hI
  · exact h n twice3 v12 hI
theorem Mf85_3 {r : Bool} {a0 : List (List Int)} {N : Nat} {k0 : Bool → Option (Bool)} {n : Nat} {twice3 : Bool} {v12 : Int} {twice3_ : Bool} {v12_ : Int} (hF : f85_3 a0 N k0 n twice3 v12 = some r) (h0 : AtH Sf85_3 st (Vf85_3 a0 twice3 v12) (Bf85_3 a0 twice3 v12)) : Kloop Sf85_3 (Yf85_3 a0) (Xf85_3 a0) (Jf85_3 a0 N k0 r) Prod.fst (n + 1, twice3_, v12_) K .normal st := by
  exact kback (y := (n, twice3, v12)) hF (Nat.lt_succ_self n) h0
def f85 (N : Nat) (a0 : List (List Int)) : Option (Bool) :=
 joinK f85_c15 fun k0 =>
 f85_3 a0 N k0 N false (0 : Int)
def G85 (ds : List D) (d : D) : Prop := ∃ (N : Nat) (a0 : List (List Int)) (r : Bool), ds = [sl_sl_iN a0] ∧ f85 N a0 = some r ∧ d = bN r
theorem G85.lend {N : Nat} {a0 : List (List Int)} {ρ : Type} {A : Bool → Option ρ} {q : ρ} {ds : List D} {K : D → Prop} (hd : ds = [sl_sl_iN a0]) (h : ∀ r, A r = some q → K (bN r)) (hF : (f85 N a0).bind A = some q) : ∃ d, (G85 ds d ∧ d.flatB = true) ∧ K d := by
  obtain ⟨r, hr, hA⟩ := bind_some hF
  exact ⟨_, ⟨⟨N, a0, r, hd, hr, rfl⟩, rfl⟩, h r hA⟩
theorem G85.step {N : Nat} {a0 : List (List Int)} {ρ : Type} {A : Bool → Option ρ} {q : ρ} {ds : List D} {K : D → Prop} (hd : ds = [sl_sl_iN a0]) (h : ∀ r, A r = some q → K (bN r)) (hF : (f85 N a0).bind A = some q) : ∃ d, G85 ds d ∧ K d := by
  obtain ⟨r, hr, hA⟩ := bind_some hF
  exact ⟨_, ⟨N, a0, r, hd, hr, rfl⟩, h r hA⟩
set_option maxRecDepth 20000 in
set_option maxHeartbeats 4000000 in
theorem P85 : PureOK Try.prog 85 G85 := by
  refine pure_of_vc (c := mkCtx tyTree []) rfl tyOK (ctx_nil) [[0]] 1 Try.func85 rfl rfl (by decide) (by kernel_rfl) ?_
  rintro ds d ⟨N, a0, r, rfl, hF, rfl⟩ hok
  clear hok
  refine ⟨rfl, ?_⟩
  show vc _ _ _ _ ⟨[(0, .dat (sl_sl_iN a0))], []⟩ _
  unfold f85 at hF
  repeat' (first
    | ((with_reducible refine q0 _ _ ?_); clear Q q0 q1 q2)
    | ((with_reducible refine q1 _ _ _ _ ?_); clear Q q0 q1 q2)
    | ((with_reducible refine q2 _ _ _ ?_); clear Q q0 q1 q2)
    | ((with_reducible refine seq_op ?hx (fun Q q0 q1 q2 => ?_)); (case hx => exact rfl); conv => whnf)
    | ((with_reducible refine draw_op ?hx (fun Q q0 q1 q2 => ?_)); (case hx => exact rfl); conv => whnf)
    | ((with_reducible refine seq_op0 ?hx (fun Q q0 q1 q2 => ?_)); (case hx => exact rfl); conv => whnf)
    | ((with_reducible refine draw_op0 ?hx (fun Q q0 q1 q2 => ?_)); (case hx => exact rfl); conv => whnf)
    | ((with_reducible refine seq_off ?hx ?_); (case hx => exact rfl))
    | ((with_reducible refine seq_off0 ?hx ?_); (case hx => exact rfl))
    | ((with_reducible refine draw_off ?hx ?_); (case hx => exact rfl))
    | ((with_reducible refine draw_off0 ?hx ?_); (case hx => exact rfl))
    | ((with_reducible refine seq_id ?_); (first | ((refine seq_opK rfl ?hy (fun Q q0 q1 q2 => ?_)); (case hy => first | assumption | exact notT (by assumption) | exact rfl); conv => whnf) | ((refine seq_offK rfl ?hy ?_); (case hy => first | assumption | exact notF (by assumption) | exact rfl)) | ((refine seq_opK0 rfl ?hy (fun Q q0 q1 q2 => ?_)); (case hy => first | assumption | exact notT (by assumption) | exact rfl); conv => whnf) | ((refine seq_offK0 rfl ?hy ?_); (case hy => first | assumption | exact notF (by assumption) | exact rfl)) | (revert hF; (with_reducible refine seq_opF ?hx ?_ ?_); (case hx => exact rfl); (intro hc hF Q q0 q1 q2; conv => whnf); rotate_left; (intro hc hF); rotate_right) | (revert hF; (with_reducible refine seq_opN ?hx ?_ ?_); (case hx => exact rfl); (intro hc hF); rotate_left; (intro hc hF Q q0 q1 q2; conv => whnf); rotate_right) | (revert hF; (with_reducible refine seq_opF0 ?hx ?_ ?_); (case hx => exact rfl); (intro hc hF Q q0 q1 q2; conv => whnf); rotate_left; (intro hc hF); rotate_right) | (revert hF; (with_reducible refine seq_opN0 ?hx ?_ ?_); (case hx => exact rfl); (intro hc hF); rotate_left; (intro hc hF Q q0 q1 q2; conv => whnf); rotate_right)))
    | ((with_reducible refine cond_id ?_); (first | ((refine condKT rfl ?hy ?_); (case hy => first | assumption | exact notT (by assumption) | exact rfl)) | ((refine condKF rfl ?hy ?_); (case hy => first | assumption | exact notF (by assumption) | exact rfl)) | (revert hF; (with_reducible refine condF ?hx ?_ ?_); (case hx => exact rfl); all_goals (intro hc hF))))
    | ((with_reducible refine seq_nil ?_); (first | ((with_reducible refine hR _ ?_); clear R hR) | ((with_reducible refine hL _ ?_); clear L hL)))
    | ((with_reducible refine draw_nil ?_); (with_reducible refine hR _ _ ?hx ?_); (case hx => kernel_rfl); (first | clear R hR | clear hR))
    | ((with_reducible refine int_step ?_); conv => whnf)
    | ((with_reducible refine len_step ?_); conv => whnf)
    | ((with_reducible refine idx2 (by assumption) ?_); conv => whnf)
    | ((with_reducible refine idx3 (by assumption) ?_); conv => whnf)
    | with_reducible refine vc_block ?_
    | with_reducible refine vc_skip ?_
    | with_reducible refine vc_scope ?_
    | with_reducible refine vc_label ?_
    | with_reducible refine vc_ret ?_
    | with_reducible refine vc_exit ?_
    | ((with_reducible refine vc_seqN [15, 14] ?hx ?_); (case hx => exact rfl))
    | (with_reducible refine vc_region (fun R hR => ?_))
    | ((with_reducible refine vc_draw ?hx (fun R hR => ?_)); (case hx => exact rfl))
    | fail
    | (revert hF; (refine Cf85_c15 rfl rfl ?_ ?_); (intro hF); rotate_left; (intro twice3 hF; unfold f85_c15 at hF); rotate_right)
    | exact Zf85_c15 hF ⟨_, rfl, rfl, rfl, rfl⟩
    | (revert hF; (refine Cf85_c14 rfl rfl ?_ ?_); (intro hF); rotate_left; (intro twice3' hF; unfold f85_c14 at hF); rotate_right)
    | exact Zf85_c14 hF ⟨_, rfl, rfl, rfl, rfl⟩
    | (revert hF; (refine Lf85_7 rfl ⟨_, rfl, rfl, rfl, rfl⟩ ?_); intro n twice3' v17 b500 b501 hF; unfold f85_7b at hF)
    | exact Mf85_7 hF ⟨_, rfl, rfl, rfl, rfl⟩
    | (revert hF; (refine Lf85_3 rfl ⟨_, rfl, rfl, rfl, rfl⟩ ?_); intro n twice3 v12 hF; unfold f85_3b at hF)
    | exact Mf85_3 hF ⟨_, rfl, rfl, rfl, rfl⟩
    | ((with_reducible refine zeroA_step (List.map bN (List.replicate 10 false)) ?hx ?_); (case hx => exact ⟨by kernel_rfl, by kernel_rfl⟩); conv => whnf)
    | ((with_reducible refine zeroD_step (List.map bN (List.replicate 10 false)) ?hx ?_); (case hx => (unfold zeroD; kernel_rfl)); conv => whnf)
    | ((with_reducible refine chkI_go hF ?_); (clear hF; intro hF; conv => whnf))
    | ((with_reducible have hG := ixN_fact hF); clear hF; (first | (refine ixN_one hG (by (try simp only [W]); omega) (fun x hF => ?_)) | (refine ixN_agg hG (fun _ => rfl) (by (try simp only [W]); omega) (fun x hF => ?_))); clear hG; conv => whnf)
    | ((with_reducible have hG := setN_fact hF); clear hF; (first | (refine setN_one hG (by (try simp only [W]); omega) rfl rfl (fun q hF => ?_)) | (refine setN_agg hG (fun _ => rfl) (by (try simp only [W]); omega) rfl rfl (fun q hF => ?_))); clear hG; conv => whnf)
    | with_reducible refine k_seq_ret ?_
    | with_reducible refine k_seq_exit ?_
    | with_reducible refine k_blk ?_
    | with_reducible refine k_blk_ret ?_
    | with_reducible refine k_blk_here ?_
    | ((with_reducible refine k_blk_out ?hx ?_); (case hx => exact rfl))
    | with_reducible refine k_loop_ret ?_
    | with_reducible refine k_loop_exit ?_
    | (revert hF; (with_reducible refine idx1 ?hn ?_); (case hn => first | exact rfl | exact (List.length_map _) | assumption | omega | simp); intro x hx hF; conv => whnf)
    | ((refine row_all ?hn ?_); (case hn => first | exact rfl | (simp; done) | (simp; omega)); conv => whnf)
    | ((with_reducible refine le_step ?hn ?_); (case hn => first | exact rfl | assumption | omega); conv => whnf)
    | ((refine ⟨?hx, ?_⟩); (case hx => exact ⟨rfl, Nat.le_of_ble_eq_true rfl, rfl⟩); conv => whnf)
    | ((with_reducible refine ex_step ?_); conv => whnf)
    | ((with_reducible refine both_T ?hx ?_); (case hx => first | exact rfl | assumption | exact notT (by assumption)); conv => whnf)
    | ((with_reducible refine both_F ?hx ?_); (case hx => first | exact rfl | assumption | exact notF (by assumption)); conv => whnf)
    | (revert hF; (with_reducible refine ite_step ?_ ?_) <;> (intro hc hF; conv => whnf))
    | ((with_reducible refine vc_condT ?hx ?_); (case hx => exact rfl))
    | ((with_reducible refine vc_condF ?hx ?_); (case hx => exact rfl))
    | (show retD _ _ _ _ _ _; conv => whnf)
    | ((refine ⟨?hx, trivial⟩); (case hx => (cases hF; exact rfl)))
    | ((refine ⟨?hx, ?_⟩); (case hx => decide); conv => whnf)
    | ((with_reducible refine k_seq ?_))
    | (have hF : (none : Option _) = some _ := hF; cases hF))
end
end Go.Vc
namespace Go.Vc
open Go.Proofs
set_option linter.unusedVariables false
set_option linter.unnecessarySimpa false
set_option linter.unusedSimpArgs false
section
variable {c : Ctx} {p nid : Nat} {a b : Code} {st : St} {K : Ex → St → Prop}
/- f49: tusche/serial.Check -/
def f49_i403_i404000102_c7 (a0 : List (List Int)) (N : Nat) : Option (Int) :=
 (f85 N a0).bind fun x3 =>
 bif x3 then (some ((6 : Int)))
 else (some ((0 : Int)))
def Sf49_i403_i404000102_c7 : Ann := ⟨[], [102], [], []⟩
def Vf49_i403_i404000102_c7 (a0 : List (List Int)) : List SV := []
def Bf49_i403_i404000102_c7 (a0 : List (List Int)) : List Blk := [.box [.dat (iN (List.length a0 : Int))]]
def Yf49_i403_i404000102_c7 (a0 : List (List Int)) (y : Unit) : List SV := Vf49_i403_i404000102_c7 a0
def Xf49_i403_i404000102_c7 (a0 : List (List Int)) (y : Unit) : List Blk := Bf49_i403_i404000102_c7 a0
def Jf49_i403_i404000102_c7 (a0 : List (List Int)) (N : Nat) (r : Int) (y : Unit) : Prop := f49_i403_i404000102_c7 a0 N = some r
theorem Cf49_i403_i404000102_c7 {r : Int} {a0 : List (List Int)} {N : Nat} {g : _ → Option (Int)} (hn : Nat.beq (nid * 1000 + firstRegion b) 404000103000000007 = true) (hz : Sf49_i403_i404000102_c7.ok p = true) (h : g (f49_i403_i404000102_c7 a0 N) = some r → vc c p nid a st (KHead Sf49_i403_i404000102_c7 (Yf49_i403_i404000102_c7 a0) (Xf49_i403_i404000102_c7 a0) (Jf49_i403_i404000102_c7 a0 N r) K)) (h2 : ∀ (_ : Unit), f49_i403_i404000102_c7 a0 N = some r → vc c p nid b (St.mk' Sf49_i403_i404000102_c7 (Vf49_i403_i404000102_c7 a0) (Bf49_i403_i404000102_c7 a0)) K) (hF : joinK (f49_i403_i404000102_c7 a0 N) g = some r) : vc c p nid (.seq a b) st K :=
  vc_cut Sf49_i403_i404000102_c7 (Yf49_i403_i404000102_c7 a0) (Xf49_i403_i404000102_c7 a0) (Jf49_i403_i404000102_c7 a0 N r) hz (h hF) fun y hy => h2 () hy
theorem Zf49_i403_i404000102_c7 {r : Int} {a0 : List (List Int)} {N : Nat} (hF : f49_i403_i404000102_c7 a0 N = some r) (h0 : AtH Sf49_i403_i404000102_c7 st (Vf49_i403_i404000102_c7 a0) (Bf49_i403_i404000102_c7 a0)) : KHead Sf49_i403_i404000102_c7 (Yf49_i403_i404000102_c7 a0) (Xf49_i403_i404000102_c7 a0) (Jf49_i403_i404000102_c7 a0 N r) K .normal st := by
  exact khead (I := (Jf49_i403_i404000102_c7 a0 N r)) (x := ()) hF h0
def f49_i403_i404000102_2b (r2 : Int → Option (Int)) (a0 : List (List Int)) (N : Nat) (x2 : List Int) (k0 : Option (Int)) (v8 : Int) : Option (Int) :=
 bif decide (v8 < (List.length x2 : Int)) then ((ix x2 v8).bind fun x4 =>
 (f64 N (0 : Int) x4 (W ((List.length a0 : Int) - (1 : Int)))).bind fun x5 =>
 bif !x5 then (bif decide ((0 : Int) ≤ v8) then (some ((4 : Int)))
 else ((f85 N a0).bind fun x6 =>
 bif x6 then (some ((6 : Int)))
 else (some ((0 : Int)))))
 else (r2 (W (v8 + (1 : Int)))))
 else k0
def f49_i403_i404000102_2 (a0 : List (List Int)) (N : Nat) (x2 : List Int) (k0 : Option (Int)) : Nat → Int → Option (Int)
  | 0, _ => none
  | n + 1, v8 => f49_i403_i404000102_2b (f49_i403_i404000102_2 a0 N x2 k0 n) a0 N x2 k0 v8
def Sf49_i403_i404000102_2 : Ann := ⟨[0, 1, 7, 8], [102], [], []⟩
def Vf49_i403_i404000102_2 (a0 : List (List Int)) (x2 : List Int) (v8 : Int) : List SV := [.dat (sl_iN x2), .fn 84 [] [.ptr 102 0], .dat (iN (List.length x2 : Int)), .dat (iN v8)]
def Bf49_i403_i404000102_2 (a0 : List (List Int)) (x2 : List Int) (v8 : Int) : List Blk := [.box [.dat (iN (List.length a0 : Int))]]
def Yf49_i403_i404000102_2 (a0 : List (List Int)) (x2 : List Int) (y : Nat × Int) : List SV := Vf49_i403_i404000102_2 a0 x2 y.2
def Xf49_i403_i404000102_2 (a0 : List (List Int)) (x2 : List Int) (y : Nat × Int) : List Blk := Bf49_i403_i404000102_2 a0 x2 y.2
def Jf49_i403_i404000102_2 (a0 : List (List Int)) (N : Nat) (x2 : List Int) (k0 : Option (Int)) (r : Int) (y : Nat × Int) : Prop := f49_i403_i404000102_2 a0 N x2 k0 y.1 y.2 = some r
theorem Lf49_i403_i404000102_2 {r : Int} {a0 : List (List Int)} {N : Nat} {x2 : List Int} {k0 : Option (Int)} {fu : Nat} {v8 : Int} (hz : Sf49_i403_i404000102_2.ok p = true) (h0 : AtH Sf49_i403_i404000102_2 st (Vf49_i403_i404000102_2 a0 x2 v8) (Bf49_i403_i404000102_2 a0 x2 v8)) (h : ∀ (n : Nat) (v8 : Int), f49_i403_i404000102_2b (f49_i403_i404000102_2 a0 N x2 k0 n) a0 N x2 k0 v8 = some r → vc c p nid a (St.mk' Sf49_i403_i404000102_2 (Vf49_i403_i404000102_2 a0 x2 v8) (Bf49_i403_i404000102_2 a0 x2 v8)) (Kloop Sf49_i403_i404000102_2 (Yf49_i403_i404000102_2 a0 x2) (Xf49_i403_i404000102_2 a0 x2) (Jf49_i403_i404000102_2 a0 N x2 k0 r) Prod.fst (n + 1, v8) K)) (hF : f49_i403_i404000102_2 a0 N x2 k0 fu v8 = some r) : vc c p nid (.loop a) st K := by
  refine vc_loop Sf49_i403_i404000102_2 (Yf49_i403_i404000102_2 a0 x2) (Xf49_i403_i404000102_2 a0 x2) (Jf49_i403_i404000102_2 a0 N x2 k0 r) Prod.fst hz (kheadL (x := (fu, v8)) hF h0) ?_
  rintro ⟨_ | n, v8⟩ hI
  · cases hI
  · exact h n v8 hI
theorem Mf49_i403_i404000102_2 {r : Int} {a0 : List (List Int)} {N : Nat} {x2 : List Int} {k0 : Option (Int)} {n : Nat} {v8 : Int} {v8_ : Int} (hF : f49_i403_i404000102_2 a0 N x2 k0 n v8 = some r) (h0 : AtH Sf49_i403_i404000102_2 st (Vf49_i403_i404000102_2 a0 x2 v8) (Bf49_i403_i404000102_2 a0 x2 v8)) : Kloop Sf49_i403_i404000102_2 (Yf49_i403_i404000102_2 a0 x2) (Xf49_i403_i404000102_2 a0 x2) (Jf49_i403_i404000102_2 a0 N x2 k0 r) Prod.fst (n + 1, v8_) K .normal st := by
  exact kback (y := (n, v8)) hF (Nat.lt_succ_self n) h0
def f49_i206_i207000102_c7 (a0 : List (List Int)) (N : Nat) : Option (Int) :=
 (f83 N a0).bind fun x2 =>
 joinK (f49_i403_i404000102_c7 a0 N) fun k0 =>
 f49_i403_i404000102_2 a0 N x2 k0 N (0 : Int)
def Sf49_i206_i207000102_c7 : Ann := ⟨[], [102], [], []⟩
def Vf49_i206_i207000102_c7 (a0 : List (List Int)) : List SV := []
def Bf49_i206_i207000102_c7 (a0 : List (List Int)) : List Blk := [.box [.dat (iN (List.length a0 : Int))]]
def Yf49_i206_i207000102_c7 (a0 : List (List Int)) (y : Unit) : List SV := Vf49_i206_i207000102_c7 a0
def Xf49_i206_i207000102_c7 (a0 : List (List Int)) (y : Unit) : List Blk := Bf49_i206_i207000102_c7 a0
def Jf49_i206_i207000102_c7 (a0 : List (List Int)) (N : Nat) (r : Int) (y : Unit) : Prop := f49_i206_i207000102_c7 a0 N = some r
theorem Cf49_i206_i207000102_c7 {r : Int} {a0 : List (List Int)} {N : Nat} {g : _ → Option (Int)} (hn : Nat.beq (nid * 1000 + firstRegion b) 207000103000000007 = true) (hz : Sf49_i206_i207000102_c7.ok p = true) (h : g (f49_i206_i207000102_c7 a0 N) = some r → vc c p nid a st (KHead Sf49_i206_i207000102_c7 (Yf49_i206_i207000102_c7 a0) (Xf49_i206_i207000102_c7 a0) (Jf49_i206_i207000102_c7 a0 N r) K)) (h2 : ∀ (_ : Unit), f49_i206_i207000102_c7 a0 N = some r → vc c p nid b (St.mk' Sf49_i206_i207000102_c7 (Vf49_i206_i207000102_c7 a0) (Bf49_i206_i207000102_c7 a0)) K) (hF : joinK (f49_i206_i207000102_c7 a0 N) g = some r) : vc c p nid (.seq a b) st K :=
  vc_cut Sf49_i206_i207000102_c7 (Yf49_i206_i207000102_c7 a0) (Xf49_i206_i207000102_c7 a0) (Jf49_i206_i207000102_c7 a0 N r) hz (h hF) fun y hy => h2 () hy
theorem Zf49_i206_i207000102_c7 {r : Int} {a0 : List (List Int)} {N : Nat} (hF : f49_i206_i207000102_c7 a0 N = some r) (h0 : AtH Sf49_i206_i207000102_c7 st (Vf49_i206_i207000102_c7 a0) (Bf49_i206_i207000102_c7 a0)) : KHead Sf49_i206_i207000102_c7 (Yf49_i206_i207000102_c7 a0) (Xf49_i206_i207000102_c7 a0) (Jf49_i206_i207000102_c7 a0 N r) K .normal st := by
  exact khead (I := (Jf49_i206_i207000102_c7 a0 N r)) (x := ()) hF h0
def f49_i403_i404000102_c7_1 (a0 : List (List Int)) (N : Nat) : Option (Int) :=
 (f85 N a0).bind fun x9 =>
 bif x9 then (some ((6 : Int)))
 else (some ((0 : Int)))
def Sf49_i403_i404000102_c7_1 : Ann := ⟨[], [102], [], []⟩
def Vf49_i403_i404000102_c7_1 (a0 : List (List Int)) : List SV := []
def Bf49_i403_i404000102_c7_1 (a0 : List (List Int)) : List Blk := [.box [.dat (iN (List.length a0 : Int))]]
def Yf49_i403_i404000102_c7_1 (a0 : List (List Int)) (y : Unit) : List SV := Vf49_i403_i404000102_c7_1 a0
def Xf49_i403_i404000102_c7_1 (a0 : List (List Int)) (y : Unit) : List Blk := Bf49_i403_i404000102_c7_1 a0
def Jf49_i403_i404000102_c7_1 (a0 : List (List Int)) (N : Nat) (r : Int) (y : Unit) : Prop := f49_i403_i404000102_c7_1 a0 N = some r
theorem Cf49_i403_i404000102_c7_1 {r : Int} {a0 : List (List Int)} {N : Nat} {g : _ → Option (Int)} (hn : Nat.beq (nid * 1000 + firstRegion b) 404000103000000007 = true) (hz : Sf49_i403_i404000102_c7_1.ok p = true) (h : g (f49_i403_i404000102_c7_1 a0 N) = some r → vc c p nid a st (KHead Sf49_i403_i404000102_c7_1 (Yf49_i403_i404000102_c7_1 a0) (Xf49_i403_i404000102_c7_1 a0) (Jf49_i403_i404000102_c7_1 a0 N r) K)) (h2 : ∀ (_ : Unit), f49_i403_i404000102_c7_1 a0 N = some r → vc c p nid b (St.mk' Sf49_i403_i404000102_c7_1 (Vf49_i403_i404000102_c7_1 a0) (Bf49_i403_i404000102_c7_1 a0)) K) (hF : joinK (f49_i403_i404000102_c7_1 a0 N) g = some r) : vc c p nid (.seq a b) st K :=
  vc_cut Sf49_i403_i404000102_c7_1 (Yf49_i403_i404000102_c7_1 a0) (Xf49_i403_i404000102_c7_1 a0) (Jf49_i403_i404000102_c7_1 a0 N r) hz (h hF) fun y hy => h2 () hy
theorem Zf49_i403_i404000102_c7_1 {r : Int} {a0 : List (List Int)} {N : Nat} (hF : f49_i403_i404000102_c7_1 a0 N = some r) (h0 : AtH Sf49_i403_i404000102_c7_1 st (Vf49_i403_i404000102_c7_1 a0) (Bf49_i403_i404000102_c7_1 a0)) : KHead Sf49_i403_i404000102_c7_1 (Yf49_i403_i404000102_c7_1 a0) (Xf49_i403_i404000102_c7_1 a0) (Jf49_i403_i404000102_c7_1 a0 N r) K .normal st := by
  exact khead (I := (Jf49_i403_i404000102_c7_1 a0 N r)) (x := ()) hF h0
def f49_i403_i404000102_2_1b (r2x : Int → Option (Int)) (a0 : List (List Int)) (N : Nat) (x8 : List Int) (k2 : Option (Int)) (v8' : Int) : Option (Int) :=
 bif decide ((v8') < (List.length x8 : Int)) then ((ix x8 (v8')).bind fun x10 =>
 (f64 N (0 : Int) x10 (W ((List.length a0 : Int) - (1 : Int)))).bind fun x11 =>
 bif !x11 then (bif decide ((0 : Int) ≤ (v8')) then (some ((4 : Int)))
 else ((f85 N a0).bind fun x12 =>
 bif x12 then (some ((6 : Int)))
 else (some ((0 : Int)))))
 else (r2x (W ((v8') + (1 : Int)))))
 else k2
def f49_i403_i404000102_2_1 (a0 : List (List Int)) (N : Nat) (x8 : List Int) (k2 : Option (Int)) : Nat → Int → Option (Int)
  | 0, _ => none
  | n + 1, v8' => f49_i403_i404000102_2_1b (f49_i403_i404000102_2_1 a0 N x8 k2 n) a0 N x8 k2 v8'
def Sf49_i403_i404000102_2_1 : Ann := ⟨[0, 1, 7, 8], [102], [], []⟩
def Vf49_i403_i404000102_2_1 (a0 : List (List Int)) (x8 : List Int) (v8' : Int) : List SV := [.dat (sl_iN x8), .fn 84 [] [.ptr 102 0], .dat (iN (List.length x8 : Int)), .dat (iN (v8'))]
def Bf49_i403_i404000102_2_1 (a0 : List (List Int)) (x8 : List Int) (v8' : Int) : List Blk := [.box [.dat (iN (List.length a0 : Int))]]
def Yf49_i403_i404000102_2_1 (a0 : List (List Int)) (x8 : List Int) (y : Nat × Int) : List SV := Vf49_i403_i404000102_2_1 a0 x8 y.2
def Xf49_i403_i404000102_2_1 (a0 : List (List Int)) (x8 : List Int) (y : Nat × Int) : List Blk := Bf49_i403_i404000102_2_1 a0 x8 y.2
def Jf49_i403_i404000102_2_1 (a0 : List (List Int)) (N : Nat) (x8 : List Int) (k2 : Option (Int)) (r : Int) (y : Nat × Int) : Prop := f49_i403_i404000102_2_1 a0 N x8 k2 y.1 y.2 = some r
theorem Lf49_i403_i404000102_2_1 {r : Int} {a0 : List (List Int)} {N : Nat} {x8 : List Int} {k2 : Option (Int)} {fu : Nat} {v8' : Int} (hz : Sf49_i403_i404000102_2_1.ok p = true) (h0 : AtH Sf49_i403_i404000102_2_1 st (Vf49_i403_i404000102_2_1 a0 x8 v8') (Bf49_i403_i404000102_2_1 a0 x8 v8')) (h : ∀ (n : Nat) (v8' : Int), f49_i403_i404000102_2_1b (f49_i403_i404000102_2_1 a0 N x8 k2 n) a0 N x8 k2 v8' = some r → vc c p nid a (St.mk' Sf49_i403_i404000102_2_1 (Vf49_i403_i404000102_2_1 a0 x8 v8') (Bf49_i403_i404000102_2_1 a0 x8 v8')) (Kloop Sf49_i403_i404000102_2_1 (Yf49_i403_i404000102_2_1 a0 x8) (Xf49_i403_i404000102_2_1 a0 x8) (Jf49_i403_i404000102_2_1 a0 N x8 k2 r) Prod.fst (n + 1, v8') K)) (hF : f49_i403_i404000102_2_1 a0 N x8 k2 fu v8' = some r) : vc c p nid (.loop a) st K := by
  refine vc_loop Sf49_i403_i404000102_2_1 (Yf49_i403_i404000102_2_1 a0 x8) (Xf49_i403_i404000102_2_1 a0 x8) (Jf49_i403_i404000102_2_1 a0 N x8 k2 r) Prod.fst hz (kheadL (x := (fu, v8')) hF h0) ?_
  rintro ⟨_ | n, v8'⟩ hI
  · cases hI
  · exact h n v8' hI
theorem Mf49_i403_i404000102_2_1 {r : Int} {a0 : List (List Int)} {N : Nat} {x8 : List Int} {k2 : Option (Int)} {n : Nat} {v8' : Int} {v8'_ : Int} (hF : f49_i403_i404000102_2_1 a0 N x8 k2 n v8' = some r) (h0 : AtH Sf49_i403_i404000102_2_1 st (Vf49_i403_i404000102_2_1 a0 x8 v8') (Bf49_i403_i404000102_2_1 a0 x8 v8')) : Kloop Sf49_i403_i404000102_2_1 (Yf49_i403_i404000102_2_1 a0 x8) (Xf49_i403_i404000102_2_1 a0 x8) (Jf49_i403_i404000102_2_1 a0 N x8 k2 r) Prod.fst (n + 1, v8'_) K .normal st := by
  exact kback (y := (n, v8')) hF (Nat.lt_succ_self n) h0
def f49_i206_i207000102_2b (r2 : Int → Option (Int)) (a0 : List (List Int)) (N : Nat) (k1 : Option (Int)) (v8 : Int) : Option (Int) :=
 bif decide (v8 < (List.length a0 : Int)) then ((ix a0 v8).bind fun x7 =>
 bif decide (¬ (List.length x7 : Int) = (List.length a0 : Int)) then (bif decide ((0 : Int) ≤ v8) then (some ((3 : Int)))
 else ((f83 N a0).bind fun x8 =>
 joinK (f49_i403_i404000102_c7_1 a0 N) fun k2 =>
 f49_i403_i404000102_2_1 a0 N x8 k2 N (0 : Int)))
 else (r2 (W (v8 + (1 : Int)))))
 else k1
def f49_i206_i207000102_2 (a0 : List (List Int)) (N : Nat) (k1 : Option (Int)) : Nat → Int → Option (Int)
  | 0, _ => none
  | n + 1, v8 => f49_i206_i207000102_2b (f49_i206_i207000102_2 a0 N k1 n) a0 N k1 v8
def Sf49_i206_i207000102_2 : Ann := ⟨[0, 1, 7, 8], [102], [], []⟩
def Vf49_i206_i207000102_2 (a0 : List (List Int)) (v8 : Int) : List SV := [.dat (sl_sl_iN a0), .fn 81 [] [.ptr 102 0], .dat (iN (List.length a0 : Int)), .dat (iN v8)]
def Bf49_i206_i207000102_2 (a0 : List (List Int)) (v8 : Int) : List Blk := [.box [.dat (iN (List.length a0 : Int))]]
def Yf49_i206_i207000102_2 (a0 : List (List Int)) (y : Nat × Int) : List SV := Vf49_i206_i207000102_2 a0 y.2
def Xf49_i206_i207000102_2 (a0 : List (List Int)) (y : Nat × Int) : List Blk := Bf49_i206_i207000102_2 a0 y.2
def Jf49_i206_i207000102_2 (a0 : List (List Int)) (N : Nat) (k1 : Option (Int)) (r : Int) (y : Nat × Int) : Prop := f49_i206_i207000102_2 a0 N k1 y.1 y.2 = some r
theorem Lf49_i206_i207000102_2 {r : Int} {a0 : List (List Int)} {N : Nat} {k1 : Option (Int)} {fu : Nat} {v8 : Int} (hz : Sf49_i206_i207000102_2.ok p = true) (h0 : AtH Sf49_i206_i207000102_2 st (Vf49_i206_i207000102_2 a0 v8) (Bf49_i206_i207000102_2 a0 v8)) (h : ∀ (n : Nat) (v8 : Int), f49_i206_i207000102_2b (f49_i206_i207000102_2 a0 N k1 n) a0 N k1 v8 = some r → vc c p nid a (St.mk' Sf49_i206_i207000102_2 (Vf49_i206_i207000102_2 a0 v8) (Bf49_i206_i207000102_2 a0 v8)) (Kloop Sf49_i206_i207000102_2 (Yf49_i206_i207000102_2 a0) (Xf49_i206_i207000102_2 a0) (Jf49_i206_i207000102_2 a0 N k1 r) Prod.fst (n + 1, v8) K)) (hF : f49_i206_i207000102_2 a0 N k1 fu v8 = some r) : vc c p nid (.loop a) st K := by
  refine vc_loop Sf49_i206_i207000102_2 (Yf49_i206_i207000102_2 a0) (Xf49_i206_i207000102_2 a0) (Jf49_i206_i207000102_2 a0 N k1 r) Prod.fst hz (kheadL (x := (fu, v8)) hF h0) ?_
  rintro ⟨_ | n, v8⟩ hI
  · cases hI
  · exact h n v8 hI
theorem Mf49_i206_i207000102_2 {r : Int} {a0 : List (List Int)} {N : Nat} {k1 : Option (Int)} {n : Nat} {v8 : Int} {v8_ : Int} (hF : f49_i206_i207000102_2 a0 N k1 n v8 = some r) (h0 : AtH Sf49_i206_i207000102_2 st (Vf49_i206_i207000102_2 a0 v8) (Bf49_i206_i207000102_2 a0 v8)) : Kloop Sf49_i206_i207000102_2 (Yf49_i206_i207000102_2 a0) (Xf49_i206_i207000102_2 a0) (Jf49_i206_i207000102_2 a0 N k1 r) Prod.fst (n + 1, v8_) K .normal st := by
  exact kback (y := (n, v8)) hF (Nat.lt_succ_self n) h0
def f49 (N : Nat) (a0 : List (List Int)) : Option (Int) :=
 (f64 N (2 : Int) (List.length a0 : Int) (10 : Int)).bind fun x1 =>
 bif !x1 then (some ((3 : Int)))
 else (joinK (f49_i206_i207000102_c7 a0 N) fun k1 =>
 f49_i206_i207000102_2 a0 N k1 N (0 : Int))
def G49 (ds : List D) (d : D) : Prop := ∃ (N : Nat) (a0 : List (List Int)) (r : Int), ds = [sl_sl_iN a0] ∧ f49 N a0 = some r ∧ d = iN r
theorem G49.lend {N : Nat} {a0 : List (List Int)} {ρ : Type} {A : Int → Option ρ} {q : ρ} {ds : List D} {K : D → Prop} (hd : ds = [sl_sl_iN a0]) (h : ∀ r, A r = some q → K (iN r)) (hF : (f49 N a0).bind A = some q) : ∃ d, (G49 ds d ∧ d.flatB = true) ∧ K d := by
  obtain ⟨r, hr, hA⟩ := bind_some hF
  exact ⟨_, ⟨⟨N, a0, r, hd, hr, rfl⟩, rfl⟩, h r hA⟩
theorem G49.step {N : Nat} {a0 : List (List Int)} {ρ : Type} {A : Int → Option ρ} {q : ρ} {ds : List D} {K : D → Prop} (hd : ds = [sl_sl_iN a0]) (h : ∀ r, A r = some q → K (iN r)) (hF : (f49 N a0).bind A = some q) : ∃ d, G49 ds d ∧ K d := by
  obtain ⟨r, hr, hA⟩ := bind_some hF
  exact ⟨_, ⟨N, a0, r, hd, hr, rfl⟩, h r hA⟩
set_option maxRecDepth 20000 in
set_option maxHeartbeats 4000000 in
theorem P49 : PureOK Try.prog 49 G49 := by
  refine pure_of_vc (c := mkCtx tyTree [(82, false, inlPg (mkCtx tyTree [(88, false, inlPg (mkCtx tyTree [(84, false, inlPg (mkCtx tyTree [(64, true, lendPg [[0], [0], [0]] G64)]) Try.f84)]) Try.f88)]) Try.f82), (80, false, inlPg (mkCtx tyTree [(93, false, inlPg (mkCtx tyTree [(81, false, inlPg (mkCtx tyTree []) Try.f81)]) Try.f93)]) Try.f80), (85, true, lendPg [[1]] G85), (83, true, purePg [[1]] G83), (64, true, lendPg [[0], [0], [0]] G64)]) rfl tyOK (ctx_eff (callable Try.func82 rfl rfl) (CallOK.inl rfl tyOK (ctx_eff (callable Try.func88 rfl rfl) (CallOK.inl rfl tyOK (ctx_eff (callable Try.func84 rfl rfl) (CallOK.inl rfl tyOK (ctx_lend (callable Try.func64 rfl rfl) P64 (ctx_nil)) Try.func84 (by kernel_rfl)) (ctx_nil)) Try.func88 (by kernel_rfl)) (ctx_nil)) Try.func82 (by kernel_rfl)) (ctx_eff (callable Try.func80 rfl rfl) (CallOK.inl rfl tyOK (ctx_eff (callable Try.func93 rfl rfl) (CallOK.inl rfl tyOK (ctx_eff (callable Try.func81 rfl rfl) (CallOK.inl rfl tyOK (ctx_nil) Try.func81 (by kernel_rfl)) (ctx_nil)) Try.func93 (by kernel_rfl)) (ctx_nil)) Try.func80 (by kernel_rfl)) (ctx_lend (callable Try.func85 rfl rfl) P85 (ctx_cons (callable Try.func83 rfl rfl) P83 (ctx_lend (callable Try.func64 rfl rfl) P64 (ctx_nil)))))) [[0]] 1 Try.func49 rfl rfl (by decide) (by kernel_rfl) ?_
  rintro ds d ⟨N, a0, r, rfl, hF, rfl⟩ hok
  clear hok
  refine ⟨rfl, ?_⟩
  show vc _ _ _ _ ⟨[(0, .dat (sl_sl_iN a0))], []⟩ _
  unfold f49 at hF
  repeat' (first
    | ((with_reducible refine q0 _ _ ?_); clear Q q0 q1 q2)
    | ((with_reducible refine q1 _ _ _ _ ?_); clear Q q0 q1 q2)
    | ((with_reducible refine q2 _ _ _ ?_); clear Q q0 q1 q2)
    | ((with_reducible refine seq_op ?hx (fun Q q0 q1 q2 => ?_)); (case hx => exact rfl); conv => whnf)
    | ((with_reducible refine seq_op0 ?hx (fun Q q0 q1 q2 => ?_)); (case hx => exact rfl); conv => whnf)
    | ((with_reducible refine seq_off ?hx ?_); (case hx => exact rfl))
    | ((with_reducible refine seq_off0 ?hx ?_); (case hx => exact rfl))
    | ((with_reducible refine seq_id ?_); (first | ((refine seq_opK rfl ?hy (fun Q q0 q1 q2 => ?_)); (case hy => first | assumption | exact notT (by assumption) | exact rfl); conv => whnf) | ((refine seq_offK rfl ?hy ?_); (case hy => first | assumption | exact notF (by assumption) | exact rfl)) | ((refine seq_opK0 rfl ?hy (fun Q q0 q1 q2 => ?_)); (case hy => first | assumption | exact notT (by assumption) | exact rfl); conv => whnf) | ((refine seq_offK0 rfl ?hy ?_); (case hy => first | assumption | exact notF (by assumption) | exact rfl)) | (revert hF; (with_reducible refine seq_opF ?hx ?_ ?_); (case hx => exact rfl); (intro hc hF Q q0 q1 q2; conv => whnf); rotate_left; (intro hc hF); rotate_right) | (revert hF; (with_reducible refine seq_opN ?hx ?_ ?_); (case hx => exact rfl); (intro hc hF); rotate_left; (intro hc hF Q q0 q1 q2; conv => whnf); rotate_right) | (revert hF; (with_reducible refine seq_opF0 ?hx ?_ ?_); (case hx => exact rfl); (intro hc hF Q q0 q1 q2; conv => whnf); rotate_left; (intro hc hF); rotate_right) | (revert hF; (with_reducible refine seq_opN0 ?hx ?_ ?_); (case hx => exact rfl); (intro hc hF); rotate_left; (intro hc hF Q q0 q1 q2; conv => whnf); rotate_right)))
    | ((with_reducible refine cond_id ?_); (first | ((refine condKT rfl ?hy ?_); (case hy => first | assumption | exact notT (by assumption) | exact rfl)) | ((refine condKF rfl ?hy ?_); (case hy => first | assumption | exact notF (by assumption) | exact rfl)) | (revert hF; (with_reducible refine condF ?hx ?_ ?_); (case hx => exact rfl); all_goals (intro hc hF))))
    | ((with_reducible refine seq_nil ?_); (first | ((with_reducible refine hR _ ?_); clear R hR) | ((with_reducible refine hL _ ?_); clear L hL)))
    | ((with_reducible refine int_step ?_); conv => whnf)
    | ((with_reducible refine len_step ?_); conv => whnf)
    | ((with_reducible refine idx2 (by assumption) ?_); conv => whnf)
    | ((with_reducible refine idx3 (by assumption) ?_); conv => whnf)
    | with_reducible refine vc_block ?_
    | with_reducible refine vc_skip ?_
    | with_reducible refine vc_ret ?_
    | with_reducible refine vc_exit ?_
    | ((with_reducible refine vc_seqN [404000103000000007, 207000103000000007, 404000103000000007] ?hx ?_); (case hx => exact rfl))
    | (with_reducible refine vc_region (fun R hR => ?_))
    | fail
    | (revert hF; (refine Cf49_i403_i404000102_c7 rfl rfl ?_ ?_); (intro hF); rotate_left; (intro _ hF; unfold f49_i403_i404000102_c7 at hF); rotate_right)
    | exact Zf49_i403_i404000102_c7 hF ⟨_, rfl, rfl, rfl, rfl⟩
    | (revert hF; (refine Lf49_i403_i404000102_2 rfl ⟨_, rfl, rfl, rfl, rfl⟩ ?_); intro n v8 hF; unfold f49_i403_i404000102_2b at hF)
    | exact Mf49_i403_i404000102_2 hF ⟨_, rfl, rfl, rfl, rfl⟩
    | (revert hF; (refine Cf49_i206_i207000102_c7 rfl rfl ?_ ?_); (intro hF); rotate_left; (intro _ hF; unfold f49_i206_i207000102_c7 at hF); rotate_right)
    | exact Zf49_i206_i207000102_c7 hF ⟨_, rfl, rfl, rfl, rfl⟩
    | (revert hF; (refine Cf49_i403_i404000102_c7_1 rfl rfl ?_ ?_); (intro hF); rotate_left; (intro _ hF; unfold f49_i403_i404000102_c7_1 at hF); rotate_right)
    | exact Zf49_i403_i404000102_c7_1 hF ⟨_, rfl, rfl, rfl, rfl⟩
    | (revert hF; (refine Lf49_i403_i404000102_2_1 rfl ⟨_, rfl, rfl, rfl, rfl⟩ ?_); intro n v8' hF; unfold f49_i403_i404000102_2_1b at hF)
    | exact Mf49_i403_i404000102_2_1 hF ⟨_, rfl, rfl, rfl, rfl⟩
    | (revert hF; (refine Lf49_i206_i207000102_2 rfl ⟨_, rfl, rfl, rfl, rfl⟩ ?_); intro n v8 hF; unfold f49_i206_i207000102_2b at hF)
    | exact Mf49_i206_i207000102_2 hF ⟨_, rfl, rfl, rfl, rfl⟩
    | (revert hF; (with_reducible refine G64.lend ?hx ?_); (case hx => exact rfl); intro v hF; conv => whnf)
    | (revert hF; (with_reducible refine G83.step ?hx ?_); (case hx => exact rfl); intro v hF; conv => whnf)
    | (revert hF; (with_reducible refine G85.lend ?hx ?_); (case hx => exact rfl); intro v hF; conv => whnf)
    | with_reducible refine k_seq_ret ?_
    | with_reducible refine k_seq_exit ?_
    | with_reducible refine k_blk ?_
    | with_reducible refine k_blk_ret ?_
    | with_reducible refine k_blk_here ?_
    | ((with_reducible refine k_blk_out ?hx ?_); (case hx => exact rfl))
    | with_reducible refine k_loop_ret ?_
    | with_reducible refine k_loop_exit ?_
    | (revert hF; (with_reducible refine idx1 ?hn ?_); (case hn => first | exact rfl | exact (List.length_map _) | assumption | omega | simp); intro x hx hF; conv => whnf)
    | ((refine row_all ?hn ?_); (case hn => first | exact rfl | (simp; done) | (simp; omega)); conv => whnf)
    | ((with_reducible refine le_step ?hn ?_); (case hn => first | exact rfl | assumption | omega); conv => whnf)
    | ((refine ⟨?hx, ?_⟩); (case hx => exact ⟨rfl, Nat.le_of_ble_eq_true rfl, rfl⟩); conv => whnf)
    | ((with_reducible refine ex_step ?_); conv => whnf)
    | ((with_reducible refine both_T ?hx ?_); (case hx => first | exact rfl | assumption | exact notT (by assumption)); conv => whnf)
    | ((with_reducible refine both_F ?hx ?_); (case hx => first | exact rfl | assumption | exact notF (by assumption)); conv => whnf)
    | (revert hF; (with_reducible refine ite_step ?_ ?_) <;> (intro hc hF; conv => whnf))
    | ((with_reducible refine vc_condT ?hx ?_); (case hx => exact rfl))
    | ((with_reducible refine vc_condF ?hx ?_); (case hx => exact rfl))
    | (show retD _ _ _ _ _ _; conv => whnf)
    | ((refine inl_step ?ha ?hb ?hc rfl ?_); (case ha => exact rfl); (case hb => omega); (case hc => exact Nat.le_of_ble_eq_true rfl))
    | (show Kinl _ _ _ _ _ _ _; conv => whnf)
    | ((with_reducible refine kinl_step ?ha ?hb ?_); (case ha => exact rfl); (case hb => exact rfl); conv => whnf)
    | ((refine ⟨?hx, trivial⟩); (case hx => (cases hF; exact rfl)))
    | ((refine ⟨?hx, ?_⟩); (case hx => decide); conv => whnf)
    | ((with_reducible refine k_seq ?_))
    | (have hF : (none : Option _) = some _ := hF; cases hF))
end
end Go.Vc
namespace Go.Vc
open Go.Proofs
set_option linter.unusedVariables false
set_option linter.unnecessarySimpa false
set_option linter.unusedSimpArgs false
section
variable {c : Ctx} {p nid : Nat} {a b : Code} {st : St} {K : Ex → St → Prop}
/- f58: tusche/serial.digits -/
def f58_i602_i603000102_c7 (a0 : List (List Int)) : Option (Int) :=
 some ((0 : Int))
def Sf58_i602_i603000102_c7 : Ann := ⟨[], [0], [], []⟩
def Vf58_i602_i603000102_c7 (a0 : List (List Int)) : List SV := []
def Bf58_i602_i603000102_c7 (a0 : List (List Int)) : List Blk := [.box [.dat (sl_sl_iN a0)]]
def Yf58_i602_i603000102_c7 (a0 : List (List Int)) (y : Unit) : List SV := Vf58_i602_i603000102_c7 a0
def Xf58_i602_i603000102_c7 (a0 : List (List Int)) (y : Unit) : List Blk := Bf58_i602_i603000102_c7 a0
def Jf58_i602_i603000102_c7 (a0 : List (List Int)) (r : Int) (y : Unit) : Prop := f58_i602_i603000102_c7 a0 = some r
theorem Cf58_i602_i603000102_c7 {r : Int} {a0 : List (List Int)} {g : _ → Option (Int)} (hn : Nat.beq (nid * 1000 + firstRegion b) 603000103000000007 = true) (hz : Sf58_i602_i603000102_c7.ok p = true) (h : g (f58_i602_i603000102_c7 a0) = some r → vc c p nid a st (KHead Sf58_i602_i603000102_c7 (Yf58_i602_i603000102_c7 a0) (Xf58_i602_i603000102_c7 a0) (Jf58_i602_i603000102_c7 a0 r) K)) (h2 : ∀ (_ : Unit), f58_i602_i603000102_c7 a0 = some r → vc c p nid b (St.mk' Sf58_i602_i603000102_c7 (Vf58_i602_i603000102_c7 a0) (Bf58_i602_i603000102_c7 a0)) K) (hF : joinK (f58_i602_i603000102_c7 a0) g = some r) : vc c p nid (.seq a b) st K :=
  vc_cut Sf58_i602_i603000102_c7 (Yf58_i602_i603000102_c7 a0) (Xf58_i602_i603000102_c7 a0) (Jf58_i602_i603000102_c7 a0 r) hz (h hF) fun y hy => h2 () hy
theorem Zf58_i602_i603000102_c7 {r : Int} {a0 : List (List Int)} (hF : f58_i602_i603000102_c7 a0 = some r) (h0 : AtH Sf58_i602_i603000102_c7 st (Vf58_i602_i603000102_c7 a0) (Bf58_i602_i603000102_c7 a0)) : KHead Sf58_i602_i603000102_c7 (Yf58_i602_i603000102_c7 a0) (Xf58_i602_i603000102_c7 a0) (Jf58_i602_i603000102_c7 a0 r) K .normal st := by
  exact khead (I := (Jf58_i602_i603000102_c7 a0 r)) (x := ()) hF h0
def f58_i602_i603000102_2b (r2 : Int → Option (Int)) (a0 : List (List Int)) (a1 : List Int) (N : Nat) (k0 : Option (Int)) (v8 : Int) : Option (Int) :=
 bif decide (v8 < (List.length a1 : Int)) then ((ix a1 v8).bind fun x2 =>
 (f64 N (0 : Int) x2 (W ((List.length a0 : Int) - (1 : Int)))).bind fun x3 =>
 bif !x3 then (bif decide ((0 : Int) ≤ v8) then (some ((4 : Int)))
 else (some ((0 : Int))))
 else (r2 (W (v8 + (1 : Int)))))
 else k0
def f58_i602_i603000102_2 (a0 : List (List Int)) (a1 : List Int) (N : Nat) (k0 : Option (Int)) : Nat → Int → Option (Int)
  | 0, _ => none
  | n + 1, v8 => f58_i602_i603000102_2b (f58_i602_i603000102_2 a0 a1 N k0 n) a0 a1 N k0 v8
def Sf58_i602_i603000102_2 : Ann := ⟨[0, 1, 7, 8], [0], [], []⟩
def Vf58_i602_i603000102_2 (a0 : List (List Int)) (a1 : List Int) (v8 : Int) : List SV := [.dat (sl_iN a1), .fn 86 [] [.ptr 0 0], .dat (iN (List.length a1 : Int)), .dat (iN v8)]
def Bf58_i602_i603000102_2 (a0 : List (List Int)) (a1 : List Int) (v8 : Int) : List Blk := [.box [.dat (sl_sl_iN a0)]]
def Yf58_i602_i603000102_2 (a0 : List (List Int)) (a1 : List Int) (y : Nat × Int) : List SV := Vf58_i602_i603000102_2 a0 a1 y.2
def Xf58_i602_i603000102_2 (a0 : List (List Int)) (a1 : List Int) (y : Nat × Int) : List Blk := Bf58_i602_i603000102_2 a0 a1 y.2
def Jf58_i602_i603000102_2 (a0 : List (List Int)) (a1 : List Int) (N : Nat) (k0 : Option (Int)) (r : Int) (y : Nat × Int) : Prop := f58_i602_i603000102_2 a0 a1 N k0 y.1 y.2 = some r
theorem Lf58_i602_i603000102_2 {r : Int} {a0 : List (List Int)} {a1 : List Int} {N : Nat} {k0 : Option (Int)} {fu : Nat} {v8 : Int} (hz : Sf58_i602_i603000102_2.ok p = true) (h0 : AtH Sf58_i602_i603000102_2 st (Vf58_i602_i603000102_2 a0 a1 v8) (Bf58_i602_i603000102_2 a0 a1 v8)) (h : ∀ (n : Nat) (v8 : Int), f58_i602_i603000102_2b (f58_i602_i603000102_2 a0 a1 N k0 n) a0 a1 N k0 v8 = some r → vc c p nid a (St.mk' Sf58_i602_i603000102_2 (Vf58_i602_i603000102_2 a0 a1 v8) (Bf58_i602_i603000102_2 a0 a1 v8)) (Kloop Sf58_i602_i603000102_2 (Yf58_i602_i603000102_2 a0 a1) (Xf58_i602_i603000102_2 a0 a1) (Jf58_i602_i603000102_2 a0 a1 N k0 r) Prod.fst (n + 1, v8) K)) (hF : f58_i602_i603000102_2 a0 a1 N k0 fu v8 = some r) : vc c p nid (.loop a) st K := by
  refine vc_loop Sf58_i602_i603000102_2 (Yf58_i602_i603000102_2 a0 a1) (Xf58_i602_i603000102_2 a0 a1) (Jf58_i602_i603000102_2 a0 a1 N k0 r) Prod.fst hz (kheadL (x := (fu, v8)) hF h0) ?_
  rintro ⟨_ | n, v8⟩ hI
  · cases hI
  · exact h n v8 hI
theorem Mf58_i602_i603000102_2 {r : Int} {a0 : List (List Int)} {a1 : List Int} {N : Nat} {k0 : Option (Int)} {n : Nat} {v8 : Int} {v8_ : Int} (hF : f58_i602_i603000102_2 a0 a1 N k0 n v8 = some r) (h0 : AtH Sf58_i602_i603000102_2 st (Vf58_i602_i603000102_2 a0 a1 v8) (Bf58_i602_i603000102_2 a0 a1 v8)) : Kloop Sf58_i602_i603000102_2 (Yf58_i602_i603000102_2 a0 a1) (Xf58_i602_i603000102_2 a0 a1) (Jf58_i602_i603000102_2 a0 a1 N k0 r) Prod.fst (n + 1, v8_) K .normal st := by
  exact kback (y := (n, v8)) hF (Nat.lt_succ_self n) h0
def f58 (N : Nat) (a0 : List (List Int)) (a1 : List Int) : Option (Int) :=
 (f49 N a0).bind fun x1 =>
 bif decide (¬ x1 = (0 : Int)) then (some (x1))
 else (bif decide ((12 : Int) < (List.length a1 : Int)) then (some ((2 : Int)))
 else (joinK (f58_i602_i603000102_c7 a0) fun k0 =>
 f58_i602_i603000102_2 a0 a1 N k0 N (0 : Int)))
def G58 (ds : List D) (d : D) : Prop := ∃ (N : Nat) (a0 : List (List Int)) (a1 : List Int) (r : Int), ds = [sl_sl_iN a0, sl_iN a1] ∧ f58 N a0 a1 = some r ∧ d = iN r
theorem G58.lend {N : Nat} {a0 : List (List Int)} {a1 : List Int} {ρ : Type} {A : Int → Option ρ} {q : ρ} {ds : List D} {K : D → Prop} (hd : ds = [sl_sl_iN a0, sl_iN a1]) (h : ∀ r, A r = some q → K (iN r)) (hF : (f58 N a0 a1).bind A = some q) : ∃ d, (G58 ds d ∧ d.flatB = true) ∧ K d := by
  obtain ⟨r, hr, hA⟩ := bind_some hF
  exact ⟨_, ⟨⟨N, a0, a1, r, hd, hr, rfl⟩, rfl⟩, h r hA⟩
theorem G58.step {N : Nat} {a0 : List (List Int)} {a1 : List Int} {ρ : Type} {A : Int → Option ρ} {q : ρ} {ds : List D} {K : D → Prop} (hd : ds = [sl_sl_iN a0, sl_iN a1]) (h : ∀ r, A r = some q → K (iN r)) (hF : (f58 N a0 a1).bind A = some q) : ∃ d, G58 ds d ∧ K d := by
  obtain ⟨r, hr, hA⟩ := bind_some hF
  exact ⟨_, ⟨N, a0, a1, r, hd, hr, rfl⟩, h r hA⟩
set_option maxRecDepth 20000 in
set_option maxHeartbeats 4000000 in
theorem P58 : PureOK Try.prog 58 G58 := by
  refine pure_of_vc (c := mkCtx tyTree [(82, false, inlPg (mkCtx tyTree [(88, false, inlPg (mkCtx tyTree [(86, false, inlPg (mkCtx tyTree [(64, true, lendPg [[0], [0], [0]] G64)]) Try.f86)]) Try.f88)]) Try.f82), (49, true, lendPg [[1]] G49)]) rfl tyOK (ctx_eff (callable Try.func82 rfl rfl) (CallOK.inl rfl tyOK (ctx_eff (callable Try.func88 rfl rfl) (CallOK.inl rfl tyOK (ctx_eff (callable Try.func86 rfl rfl) (CallOK.inl rfl tyOK (ctx_lend (callable Try.func64 rfl rfl) P64 (ctx_nil)) Try.func86 (by kernel_rfl)) (ctx_nil)) Try.func88 (by kernel_rfl)) (ctx_nil)) Try.func82 (by kernel_rfl)) (ctx_lend (callable Try.func49 rfl rfl) P49 (ctx_nil))) [[0]] 2 Try.func58 rfl rfl (by decide) (by kernel_rfl) ?_
  rintro ds d ⟨N, a0, a1, r, rfl, hF, rfl⟩ hok
  clear hok
  refine ⟨rfl, ?_⟩
  show vc _ _ _ _ ⟨[(0, .dat (sl_sl_iN a0)), (1, .dat (sl_iN a1))], []⟩ _
  unfold f58 at hF
  repeat' (first
    | ((with_reducible refine q0 _ _ ?_); clear Q q0 q1 q2)
    | ((with_reducible refine q1 _ _ _ _ ?_); clear Q q0 q1 q2)
    | ((with_reducible refine q2 _ _ _ ?_); clear Q q0 q1 q2)
    | ((with_reducible refine seq_op ?hx (fun Q q0 q1 q2 => ?_)); (case hx => exact rfl); conv => whnf)
    | ((with_reducible refine cond_id ?_); (first | ((refine condKT rfl ?hy ?_); (case hy => first | assumption | exact notT (by assumption) | exact rfl)) | ((refine condKF rfl ?hy ?_); (case hy => first | assumption | exact notF (by assumption) | exact rfl)) | (revert hF; (with_reducible refine condF ?hx ?_ ?_); (case hx => exact rfl); all_goals (intro hc hF))))
    | ((with_reducible refine seq_nil ?_); (first | ((with_reducible refine hR _ ?_); clear R hR) | ((with_reducible refine hL _ ?_); clear L hL)))
    | ((with_reducible refine int_step ?_); conv => whnf)
    | ((with_reducible refine len_step ?_); conv => whnf)
    | ((with_reducible refine idx2 (by assumption) ?_); conv => whnf)
    | ((with_reducible refine idx3 (by assumption) ?_); conv => whnf)
    | with_reducible refine vc_block ?_
    | with_reducible refine vc_skip ?_
    | with_reducible refine vc_ret ?_
    | with_reducible refine vc_exit ?_
    | ((with_reducible refine vc_seqN [603000103000000007] ?hx ?_); (case hx => exact rfl))
    | (with_reducible refine vc_region (fun R hR => ?_))
    | fail
    | (revert hF; (refine Cf58_i602_i603000102_c7 rfl rfl ?_ ?_); (intro hF); rotate_left; (intro _ hF; unfold f58_i602_i603000102_c7 at hF); rotate_right)
    | exact Zf58_i602_i603000102_c7 hF ⟨_, rfl, rfl, rfl, rfl⟩
    | (revert hF; (refine Lf58_i602_i603000102_2 rfl ⟨_, rfl, rfl, rfl, rfl⟩ ?_); intro n v8 hF; unfold f58_i602_i603000102_2b at hF)
    | exact Mf58_i602_i603000102_2 hF ⟨_, rfl, rfl, rfl, rfl⟩
    | (revert hF; (with_reducible refine G49.lend ?hx ?_); (case hx => exact rfl); intro v hF; conv => whnf)
    | (revert hF; (with_reducible refine G64.lend ?hx ?_); (case hx => exact rfl); intro v hF; conv => whnf)
    | with_reducible refine k_seq_ret ?_
    | with_reducible refine k_seq_exit ?_
    | with_reducible refine k_blk ?_
    | with_reducible refine k_blk_ret ?_
    | with_reducible refine k_blk_here ?_
    | ((with_reducible refine k_blk_out ?hx ?_); (case hx => exact rfl))
    | with_reducible refine k_loop_ret ?_
    | with_reducible refine k_loop_exit ?_
    | (revert hF; (with_reducible refine idx1 ?hn ?_); (case hn => first | exact rfl | exact (List.length_map _) | assumption | omega | simp); intro x hx hF; conv => whnf)
    | ((refine row_all ?hn ?_); (case hn => first | exact rfl | (simp; done) | (simp; omega)); conv => whnf)
    | ((with_reducible refine le_step ?hn ?_); (case hn => first | exact rfl | assumption | omega); conv => whnf)
    | ((refine ⟨?hx, ?_⟩); (case hx => exact ⟨rfl, Nat.le_of_ble_eq_true rfl, rfl⟩); conv => whnf)
    | ((with_reducible refine ex_step ?_); conv => whnf)
    | ((with_reducible refine both_T ?hx ?_); (case hx => first | exact rfl | assumption | exact notT (by assumption)); conv => whnf)
    | ((with_reducible refine both_F ?hx ?_); (case hx => first | exact rfl | assumption | exact notF (by assumption)); conv => whnf)
    | (revert hF; (with_reducible refine ite_step ?_ ?_) <;> (intro hc hF; conv => whnf))
    | ((with_reducible refine vc_condT ?hx ?_); (case hx => exact rfl))
    | ((with_reducible refine vc_condF ?hx ?_); (case hx => exact rfl))
    | (show retD _ _ _ _ _ _; conv => whnf)
    | ((refine inl_step ?ha ?hb ?hc rfl ?_); (case ha => exact rfl); (case hb => omega); (case hc => exact Nat.le_of_ble_eq_true rfl))
    | (show Kinl _ _ _ _ _ _ _; conv => whnf)
    | ((with_reducible refine kinl_step ?ha ?hb ?_); (case ha => exact rfl); (case hb => exact rfl); conv => whnf)
    | ((refine ⟨?hx, trivial⟩); (case hx => (cases hF; exact rfl)))
    | ((refine ⟨?hx, ?_⟩); (case hx => decide); conv => whnf)
    | ((with_reducible refine k_seq ?_))
    | (have hF : (none : Option _) = some _ := hF; cases hF))
end
end Go.Vc
namespace Go.Vc
open Go.Proofs
set_option linter.unusedVariables false
set_option linter.unnecessarySimpa false
set_option linter.unusedSimpArgs false
section
variable {c : Ctx} {p nid : Nat} {a b : Code} {st : St} {K : Ex → St → Prop}
/- f59: tusche/serial.after -/
def f59_i103_c6 (a0 : List (List Int)) (start0 : Int) : Option (Int) :=
 some (start0)
def Sf59_i103_c6 : Ann := ⟨[0], [0], [], []⟩
def Vf59_i103_c6 (a0 : List (List Int)) (start0 : Int) : List SV := [.dat (iN start0)]
def Bf59_i103_c6 (a0 : List (List Int)) (start0 : Int) : List Blk := [.box [.dat (sl_sl_iN a0)]]
def Yf59_i103_c6 (a0 : List (List Int)) (y : Int) : List SV := Vf59_i103_c6 a0 y
def Xf59_i103_c6 (a0 : List (List Int)) (y : Int) : List Blk := Bf59_i103_c6 a0 y
def Jf59_i103_c6 (a0 : List (List Int)) (r : Int) (y : Int) : Prop := f59_i103_c6 a0 y = some r
theorem Cf59_i103_c6 {r : Int} {a0 : List (List Int)} {g : _ → Option (Int)} (hn : Nat.beq (nid * 1000 + firstRegion b) 104000000006 = true) (hz : Sf59_i103_c6.ok p = true) (h : g (f59_i103_c6 a0) = some r → vc c p nid a st (KHead Sf59_i103_c6 (Yf59_i103_c6 a0) (Xf59_i103_c6 a0) (Jf59_i103_c6 a0 r) K)) (h2 : ∀ (start0 : Int), f59_i103_c6 a0 start0 = some r → vc c p nid b (St.mk' Sf59_i103_c6 (Vf59_i103_c6 a0 start0) (Bf59_i103_c6 a0 start0)) K) (hF : joinK (f59_i103_c6 a0) g = some r) : vc c p nid (.seq a b) st K :=
  vc_cut Sf59_i103_c6 (Yf59_i103_c6 a0) (Xf59_i103_c6 a0) (Jf59_i103_c6 a0 r) hz (h hF) fun y hy => h2 y hy
theorem Zf59_i103_c6 {r : Int} {a0 : List (List Int)} {start0 : Int} (hF : f59_i103_c6 a0 start0 = some r) (h0 : AtH Sf59_i103_c6 st (Vf59_i103_c6 a0 start0) (Bf59_i103_c6 a0 start0)) : KHead Sf59_i103_c6 (Yf59_i103_c6 a0) (Xf59_i103_c6 a0) (Jf59_i103_c6 a0 r) K .normal st := by
  exact khead (I := (Jf59_i103_c6 a0 r)) (x := (start0)) hF h0
def f59_i103_2b (r2 : Int → Int → Option (Int)) (a0 : List (List Int)) (a2 : List Int) (k0 : Int → Option (Int)) (start0 : Int) (v11 : Int) : Option (Int) :=
 bif decide (v11 < (List.length a2 : Int)) then ((ix a2 v11).bind fun x1 =>
 (ix a0 start0).bind fun x2 =>
 (ix x2 x1).bind fun x3 =>
 r2 x3 (W (v11 + (1 : Int))))
 else (k0 start0)
def f59_i103_2 (a0 : List (List Int)) (a2 : List Int) (k0 : Int → Option (Int)) : Nat → Int → Int → Option (Int)
  | 0, _, _ => none
  | n + 1, start0, v11 => f59_i103_2b (f59_i103_2 a0 a2 k0 n) a0 a2 k0 start0 v11
def Sf59_i103_2 : Ann := ⟨[0, 2, 9, 10, 11], [0], [], []⟩
def Vf59_i103_2 (a0 : List (List Int)) (a2 : List Int) (start0 : Int) (v11 : Int) : List SV := [.dat (iN start0), .fn 87 [] [.ptr 0 0], .dat (sl_iN a2), .dat (iN (List.length a2 : Int)), .dat (iN v11)]
def Bf59_i103_2 (a0 : List (List Int)) (a2 : List Int) (start0 : Int) (v11 : Int) : List Blk := [.box [.dat (sl_sl_iN a0)]]
def Yf59_i103_2 (a0 : List (List Int)) (a2 : List Int) (y : Nat × Int × Int) : List SV := Vf59_i103_2 a0 a2 y.2.1 y.2.2
def Xf59_i103_2 (a0 : List (List Int)) (a2 : List Int) (y : Nat × Int × Int) : List Blk := Bf59_i103_2 a0 a2 y.2.1 y.2.2
def Jf59_i103_2 (a0 : List (List Int)) (a2 : List Int) (k0 : Int → Option (Int)) (r : Int) (y : Nat × Int × Int) : Prop := f59_i103_2 a0 a2 k0 y.1 y.2.1 y.2.2 = some r
theorem Lf59_i103_2 {r : Int} {a0 : List (List Int)} {a2 : List Int} {k0 : Int → Option (Int)} {fu : Nat} {start0 : Int} {v11 : Int} (hz : Sf59_i103_2.ok p = true) (h0 : AtH Sf59_i103_2 st (Vf59_i103_2 a0 a2 start0 v11) (Bf59_i103_2 a0 a2 start0 v11)) (h : ∀ (n : Nat) (start0 : Int) (v11 : Int), f59_i103_2b (f59_i103_2 a0 a2 k0 n) a0 a2 k0 start0 v11 = some r → vc c p nid a (St.mk' Sf59_i103_2 (Vf59_i103_2 a0 a2 start0 v11) (Bf59_i103_2 a0 a2 start0 v11)) (Kloop Sf59_i103_2 (Yf59_i103_2 a0 a2) (Xf59_i103_2 a0 a2) (Jf59_i103_2 a0 a2 k0 r) Prod.fst (n + 1, start0, v11) K)) (hF : f59_i103_2 a0 a2 k0 fu start0 v11 = some r) : vc c p nid (.loop a) st K := by
  refine vc_loop Sf59_i103_2 (Yf59_i103_2 a0 a2) (Xf59_i103_2 a0 a2) (Jf59_i103_2 a0 a2 k0 r) Prod.fst hz (kheadL (x := (fu, start0, v11)) hF h0) ?_
  rintro ⟨_ | n, start0, v11⟩ hI
  · cases hI
  · exact h n start0 v11 hI
theorem Mf59_i103_2 {r : Int} {a0 : List (List Int)} {a2 : List Int} {k0 : Int → Option (Int)} {n : Nat} {start0 : Int} {v11 : Int} {start0_ : Int} {v11_ : Int} (hF : f59_i103_2 a0 a2 k0 n start0 v11 = some r) (h0 : AtH Sf59_i103_2 st (Vf59_i103_2 a0 a2 start0 v11) (Bf59_i103_2 a0 a2 start0 v11)) : Kloop Sf59_i103_2 (Yf59_i103_2 a0 a2) (Xf59_i103_2 a0 a2) (Jf59_i103_2 a0 a2 k0 r) Prod.fst (n + 1, start0_, v11_) K .normal st := by
  exact kback (y := (n, start0, v11)) hF (Nat.lt_succ_self n) h0
def f59 (N : Nat) (a0 : List (List Int)) (a1 : Int) (a2 : List Int) : Option (Int) :=
 joinK (f59_i103_c6 a0) fun k0 =>
 f59_i103_2 a0 a2 k0 N a1 (0 : Int)
def G59 (ds : List D) (d : D) : Prop := ∃ (N : Nat) (a0 : List (List Int)) (a1 : Int) (a2 : List Int) (r : Int), ds = [sl_sl_iN a0, iN a1, sl_iN a2] ∧ f59 N a0 a1 a2 = some r ∧ d = iN r
theorem G59.lend {N : Nat} {a0 : List (List Int)} {a1 : Int} {a2 : List Int} {ρ : Type} {A : Int → Option ρ} {q : ρ} {ds : List D} {K : D → Prop} (hd : ds = [sl_sl_iN a0, iN a1, sl_iN a2]) (h : ∀ r, A r = some q → K (iN r)) (hF : (f59 N a0 a1 a2).bind A = some q) : ∃ d, (G59 ds d ∧ d.flatB = true) ∧ K d := by
  obtain ⟨r, hr, hA⟩ := bind_some hF
  exact ⟨_, ⟨⟨N, a0, a1, a2, r, hd, hr, rfl⟩, rfl⟩, h r hA⟩
theorem G59.step {N : Nat} {a0 : List (List Int)} {a1 : Int} {a2 : List Int} {ρ : Type} {A : Int → Option ρ} {q : ρ} {ds : List D} {K : D → Prop} (hd : ds = [sl_sl_iN a0, iN a1, sl_iN a2]) (h : ∀ r, A r = some q → K (iN r)) (hF : (f59 N a0 a1 a2).bind A = some q) : ∃ d, G59 ds d ∧ K d := by
  obtain ⟨r, hr, hA⟩ := bind_some hF
  exact ⟨_, ⟨N, a0, a1, a2, r, hd, hr, rfl⟩, h r hA⟩
set_option maxRecDepth 20000 in
set_option maxHeartbeats 4000000 in
theorem P59 : PureOK Try.prog 59 G59 := by
  refine pure_of_vc (c := mkCtx tyTree [(72, false, inlPg (mkCtx tyTree [(87, false, inlPg (mkCtx tyTree []) Try.f87)]) Try.f72)]) rfl tyOK (ctx_eff (callable Try.func72 rfl rfl) (CallOK.inl rfl tyOK (ctx_eff (callable Try.func87 rfl rfl) (CallOK.inl rfl tyOK (ctx_nil) Try.func87 (by kernel_rfl)) (ctx_nil)) Try.func72 (by kernel_rfl)) (ctx_nil)) [[0]] 3 Try.func59 rfl rfl (by decide) (by kernel_rfl) ?_
  rintro ds d ⟨N, a0, a1, a2, r, rfl, hF, rfl⟩ hok
  clear hok
  refine ⟨rfl, ?_⟩
  show vc _ _ _ _ ⟨[(0, .dat (sl_sl_iN a0)), (1, .dat (iN a1)), (2, .dat (sl_iN a2))], []⟩ _
  unfold f59 at hF
  repeat' (first
    | ((with_reducible refine q0 _ _ ?_); clear Q q0 q1 q2)
    | ((with_reducible refine q1 _ _ _ _ ?_); clear Q q0 q1 q2)
    | ((with_reducible refine q2 _ _ _ ?_); clear Q q0 q1 q2)
    | ((with_reducible refine seq_op ?hx (fun Q q0 q1 q2 => ?_)); (case hx => exact rfl); conv => whnf)
    | ((with_reducible refine cond_id ?_); (first | ((refine condKT rfl ?hy ?_); (case hy => first | assumption | exact notT (by assumption) | exact rfl)) | ((refine condKF rfl ?hy ?_); (case hy => first | assumption | exact notF (by assumption) | exact rfl)) | (revert hF; (with_reducible refine condF ?hx ?_ ?_); (case hx => exact rfl); all_goals (intro hc hF))))
    | ((with_reducible refine seq_nil ?_); (first | ((with_reducible refine hR _ ?_); clear R hR) | ((with_reducible refine hL _ ?_); clear L hL)))
    | ((with_reducible refine int_step ?_); conv => whnf)
    | ((with_reducible refine len_step ?_); conv => whnf)
    | ((with_reducible refine idx2 (by assumption) ?_); conv => whnf)
    | ((with_reducible refine idx3 (by assumption) ?_); conv => whnf)
    | with_reducible refine vc_block ?_
    | with_reducible refine vc_skip ?_
    | with_reducible refine vc_ret ?_
    | with_reducible refine vc_exit ?_
    | ((with_reducible refine vc_seqN [104000000006] ?hx ?_); (case hx => exact rfl))
    | (with_reducible refine vc_region (fun R hR => ?_))
    | fail
    | (revert hF; (refine Cf59_i103_c6 rfl rfl ?_ ?_); (intro hF); rotate_left; (intro start0 hF; unfold f59_i103_c6 at hF); rotate_right)
    | exact Zf59_i103_c6 hF ⟨_, rfl, rfl, rfl, rfl⟩
    | (revert hF; (refine Lf59_i103_2 rfl ⟨_, rfl, rfl, rfl, rfl⟩ ?_); intro n start0 v11 hF; unfold f59_i103_2b at hF)
    | exact Mf59_i103_2 hF ⟨_, rfl, rfl, rfl, rfl⟩
    | with_reducible refine k_seq_ret ?_
    | with_reducible refine k_seq_exit ?_
    | with_reducible refine k_blk ?_
    | with_reducible refine k_blk_ret ?_
    | with_reducible refine k_blk_here ?_
    | ((with_reducible refine k_blk_out ?hx ?_); (case hx => exact rfl))
    | with_reducible refine k_loop_ret ?_
    | with_reducible refine k_loop_exit ?_
    | (revert hF; (with_reducible refine idx1 ?hn ?_); (case hn => first | exact rfl | exact (List.length_map _) | assumption | omega | simp); intro x hx hF; conv => whnf)
    | ((refine row_all ?hn ?_); (case hn => first | exact rfl | (simp; done) | (simp; omega)); conv => whnf)
    | ((with_reducible refine le_step ?hn ?_); (case hn => first | exact rfl | assumption | omega); conv => whnf)
    | ((refine ⟨?hx, ?_⟩); (case hx => exact ⟨rfl, Nat.le_of_ble_eq_true rfl, rfl⟩); conv => whnf)
    | ((with_reducible refine ex_step ?_); conv => whnf)
    | ((with_reducible refine both_T ?hx ?_); (case hx => first | exact rfl | assumption | exact notT (by assumption)); conv => whnf)
    | ((with_reducible refine both_F ?hx ?_); (case hx => first | exact rfl | assumption | exact notF (by assumption)); conv => whnf)
    | (revert hF; (with_reducible refine ite_step ?_ ?_) <;> (intro hc hF; conv => whnf))
    | ((with_reducible refine vc_condT ?hx ?_); (case hx => exact rfl))
    | ((with_reducible refine vc_condF ?hx ?_); (case hx => exact rfl))
    | (show retD _ _ _ _ _ _; conv => whnf)
    | ((refine inl_step ?ha ?hb ?hc rfl ?_); (case ha => exact rfl); (case hb => omega); (case hc => exact Nat.le_of_ble_eq_true rfl))
    | (show Kinl _ _ _ _ _ _ _; conv => whnf)
    | ((with_reducible refine kinl_step ?ha ?hb ?_); (case ha => exact rfl); (case hb => exact rfl); conv => whnf)
    | ((refine ⟨?hx, trivial⟩); (case hx => (cases hF; exact rfl)))
    | ((refine ⟨?hx, ?_⟩); (case hx => decide); conv => whnf)
    | ((with_reducible refine k_seq ?_))
    | (have hF : (none : Option _) = some _ := hF; cases hF))
end
end Go.Vc
namespace Go.Vc
open Go.Proofs
set_option linter.unusedVariables false
set_option linter.unnecessarySimpa false
set_option linter.unusedSimpArgs false
section
variable {c : Ctx} {p nid : Nat} {a b : Code} {st : St} {K : Ex → St → Prop}
/- f21: tusche/serial.State -/
def f21 (N : Nat) (a0 : List (List Int)) (a1 : List Int) : Option (Int × Int) :=
 (f58 N a0 a1).bind fun x1 =>
 bif decide (¬ x1 = (0 : Int)) then (some ((0 : Int), x1))
 else ((f59 N a0 (0 : Int) a1).bind fun x2 =>
 some (x2, (0 : Int)))
def G21 (ds : List D) (d : D) : Prop := ∃ (N : Nat) (a0 : List (List Int)) (a1 : List Int) (r : Int × Int), ds = [sl_sl_iN a0, sl_iN a1] ∧ f21 N a0 a1 = some r ∧ d = .tup [iN r.1, iN r.2]
theorem G21.lend {N : Nat} {a0 : List (List Int)} {a1 : List Int} {ρ : Type} {A : (Int × Int) → Option ρ} {q : ρ} {ds : List D} {K : D → Prop} (hd : ds = [sl_sl_iN a0, sl_iN a1]) (h : ∀ r, A r = some q → K (.tup [iN r.1, iN r.2])) (hF : (f21 N a0 a1).bind A = some q) : ∃ d, (G21 ds d ∧ d.flatB = true) ∧ K d := by
  obtain ⟨r, hr, hA⟩ := bind_some hF
  exact ⟨_, ⟨⟨N, a0, a1, r, hd, hr, rfl⟩, rfl⟩, h r hA⟩
theorem G21.step {N : Nat} {a0 : List (List Int)} {a1 : List Int} {ρ : Type} {A : (Int × Int) → Option ρ} {q : ρ} {ds : List D} {K : D → Prop} (hd : ds = [sl_sl_iN a0, sl_iN a1]) (h : ∀ r, A r = some q → K (.tup [iN r.1, iN r.2])) (hF : (f21 N a0 a1).bind A = some q) : ∃ d, G21 ds d ∧ K d := by
  obtain ⟨r, hr, hA⟩ := bind_some hF
  exact ⟨_, ⟨N, a0, a1, r, hd, hr, rfl⟩, h r hA⟩
set_option maxRecDepth 20000 in
set_option maxHeartbeats 4000000 in
theorem P21 : PureOK Try.prog 21 G21 := by
  refine pure_of_vc (c := mkCtx tyTree [(59, true, lendPg [[1], [0], [1]] G59), (58, true, lendPg [[1], [1]] G58)]) rfl tyOK (ctx_lend (callable Try.func59 rfl rfl) P59 (ctx_lend (callable Try.func58 rfl rfl) P58 (ctx_nil))) [[0], [0]] 2 Try.func21 rfl rfl (by decide) (by kernel_rfl) ?_
  rintro ds d ⟨N, a0, a1, r, rfl, hF, rfl⟩ hok
  clear hok
  refine ⟨rfl, ?_⟩
  show vc _ _ _ _ ⟨[(0, .dat (sl_sl_iN a0)), (1, .dat (sl_iN a1))], []⟩ _
  unfold f21 at hF
  repeat' (first
    | ((with_reducible refine q0 _ _ ?_); clear Q q0 q1 q2)
    | ((with_reducible refine q1 _ _ _ _ ?_); clear Q q0 q1 q2)
    | ((with_reducible refine q2 _ _ _ ?_); clear Q q0 q1 q2)
    | ((with_reducible refine seq_op ?hx (fun Q q0 q1 q2 => ?_)); (case hx => exact rfl); conv => whnf)
    | ((with_reducible refine cond_id ?_); (first | ((refine condKT rfl ?hy ?_); (case hy => first | assumption | exact notT (by assumption) | exact rfl)) | ((refine condKF rfl ?hy ?_); (case hy => first | assumption | exact notF (by assumption) | exact rfl)) | (revert hF; (with_reducible refine condF ?hx ?_ ?_); (case hx => exact rfl); all_goals (intro hc hF))))
    | ((with_reducible refine seq_nil ?_); (first | ((with_reducible refine hR _ ?_); clear R hR) | ((with_reducible refine hL _ ?_); clear L hL)))
    | ((with_reducible refine int_step ?_); conv => whnf)
    | with_reducible refine vc_block ?_
    | with_reducible refine vc_skip ?_
    | with_reducible refine vc_ret ?_
    | with_reducible refine vc_exit ?_
    | ((with_reducible refine vc_seqN [] ?hx ?_); (case hx => exact rfl))
    | (with_reducible refine vc_region (fun R hR => ?_))
    | fail
    | (revert hF; (with_reducible refine G58.lend ?hx ?_); (case hx => exact rfl); intro v hF; conv => whnf)
    | (revert hF; (with_reducible refine G59.lend ?hx ?_); (case hx => exact rfl); intro v hF; conv => whnf)
    | with_reducible refine k_seq_ret ?_
    | with_reducible refine k_seq_exit ?_
    | with_reducible refine k_blk ?_
    | with_reducible refine k_blk_ret ?_
    | with_reducible refine k_blk_here ?_
    | ((with_reducible refine k_blk_out ?hx ?_); (case hx => exact rfl))
    | ((refine row_all ?hn ?_); (case hn => first | exact rfl | (simp; done) | (simp; omega)); conv => whnf)
    | ((with_reducible refine le_step ?hn ?_); (case hn => first | exact rfl | assumption | omega); conv => whnf)
    | ((refine ⟨?hx, ?_⟩); (case hx => exact ⟨rfl, Nat.le_of_ble_eq_true rfl, rfl⟩); conv => whnf)
    | ((with_reducible refine ex_step ?_); conv => whnf)
    | ((with_reducible refine both_T ?hx ?_); (case hx => first | exact rfl | assumption | exact notT (by assumption)); conv => whnf)
    | ((with_reducible refine both_F ?hx ?_); (case hx => first | exact rfl | assumption | exact notF (by assumption)); conv => whnf)
    | (revert hF; (with_reducible refine ite_step ?_ ?_) <;> (intro hc hF; conv => whnf))
    | ((with_reducible refine vc_condT ?hx ?_); (case hx => exact rfl))
    | ((with_reducible refine vc_condF ?hx ?_); (case hx => exact rfl))
    | (show retD _ _ _ _ _ _; conv => whnf)
    | ((refine ⟨?hx, trivial⟩); (case hx => (cases hF; exact rfl)))
    | ((refine ⟨?hx, ?_⟩); (case hx => decide); conv => whnf)
    | ((with_reducible refine k_seq ?_))
    | (have hF : (none : Option _) = some _ := hF; cases hF))
end
end Go.Vc
namespace Go.Vc
open Go.Proofs
set_option linter.unusedVariables false
set_option linter.unnecessarySimpa false
set_option linter.unusedSimpArgs false
section
variable {c : Ctx} {p nid : Nat} {a b : Code} {st : St} {K : Ex → St → Prop}
/- f62: slices.Index[[]int,int] -/
def f62_c7 : Option (Int) :=
 some ((-1 : Int))
def Sf62_c7 : Ann := ⟨[], [], [], []⟩
def Vf62_c7 : List SV := []
def Bf62_c7 : List Blk := []
def Yf62_c7 (y : Unit) : List SV := Vf62_c7
def Xf62_c7 (y : Unit) : List Blk := Bf62_c7
def Jf62_c7 (r : Int) (y : Unit) : Prop := f62_c7 = some r
theorem Cf62_c7 {r : Int} {g : _ → Option (Int)} (hn : Nat.beq (nid * 1000 + firstRegion b) 7 = true) (hz : Sf62_c7.ok p = true) (h : g f62_c7 = some r → vc c p nid a st (KHead Sf62_c7 Yf62_c7 Xf62_c7 (Jf62_c7 r) K)) (h2 : ∀ (_ : Unit), f62_c7 = some r → vc c p nid b (St.mk' Sf62_c7 Vf62_c7 Bf62_c7) K) (hF : joinK f62_c7 g = some r) : vc c p nid (.seq a b) st K :=
  vc_cut Sf62_c7 Yf62_c7 Xf62_c7 (Jf62_c7 r) hz (h hF) fun y hy => h2 () hy
theorem Zf62_c7 {r : Int} (hF : f62_c7 = some r) (h0 : AtH Sf62_c7 st Vf62_c7 Bf62_c7) : KHead Sf62_c7 Yf62_c7 Xf62_c7 (Jf62_c7 r) K .normal st := by
  exact khead (I := (Jf62_c7 r)) (x := ()) hF h0
def f62_2b (r2 : Int → Option (Int)) (a0 : List Int) (a1 : Int) (k0 : Option (Int)) (v8 : Int) : Option (Int) :=
 bif decide (v8 < (List.length a0 : Int)) then ((ix a0 v8).bind fun x1 =>
 bif decide (a1 = x1) then (some (v8))
 else (r2 (W (v8 + (1 : Int)))))
 else k0
def f62_2 (a0 : List Int) (a1 : Int) (k0 : Option (Int)) : Nat → Int → Option (Int)
  | 0, _ => none
  | n + 1, v8 => f62_2b (f62_2 a0 a1 k0 n) a0 a1 k0 v8
def Sf62_2 : Ann := ⟨[0, 1, 7, 8], [], [], []⟩
def Vf62_2 (a0 : List Int) (a1 : Int) (v8 : Int) : List SV := [.dat (sl_iN a0), .dat (iN a1), .dat (iN (List.length a0 : Int)), .dat (iN v8)]
def Bf62_2 (a0 : List Int) (a1 : Int) (v8 : Int) : List Blk := []
def Yf62_2 (a0 : List Int) (a1 : Int) (y : Nat × Int) : List SV := Vf62_2 a0 a1 y.2
def Xf62_2 (a0 : List Int) (a1 : Int) (y : Nat × Int) : List Blk := Bf62_2 a0 a1 y.2
def Jf62_2 (a0 : List Int) (a1 : Int) (k0 : Option (Int)) (r : Int) (y : Nat × Int) : Prop := f62_2 a0 a1 k0 y.1 y.2 = some r
theorem Lf62_2 {r : Int} {a0 : List Int} {a1 : Int} {k0 : Option (Int)} {fu : Nat} {v8 : Int} (hz : Sf62_2.ok p = true) (h0 : AtH Sf62_2 st (Vf62_2 a0 a1 v8) (Bf62_2 a0 a1 v8)) (h : ∀ (n : Nat) (v8 : Int), f62_2b (f62_2 a0 a1 k0 n) a0 a1 k0 v8 = some r → vc c p nid a (St.mk' Sf62_2 (Vf62_2 a0 a1 v8) (Bf62_2 a0 a1 v8)) (Kloop Sf62_2 (Yf62_2 a0 a1) (Xf62_2 a0 a1) (Jf62_2 a0 a1 k0 r) Prod.fst (n + 1, v8) K)) (hF : f62_2 a0 a1 k0 fu v8 = some r) : vc c p nid (.loop a) st K := by
  refine vc_loop Sf62_2 (Yf62_2 a0 a1) (Xf62_2 a0 a1) (Jf62_2 a0 a1 k0 r) Prod.fst hz (kheadL (x := (fu, v8)) hF h0) ?_
  rintro ⟨_ | n, v8⟩ hI
  · cases hI
  · exact h n v8 hI
theorem Mf62_2 {r : Int} {a0 : List Int} {a1 : Int} {k0 : Option (Int)} {n : Nat} {v8 : Int} {v8_ : Int} (hF : f62_2 a0 a1 k0 n v8 = some r) (h0 : AtH Sf62_2 st (Vf62_2 a0 a1 v8) (Bf62_2 a0 a1 v8)) : Kloop Sf62_2 (Yf62_2 a0 a1) (Xf62_2 a0 a1) (Jf62_2 a0 a1 k0 r) Prod.fst (n + 1, v8_) K .normal st := by
  exact kback (y := (n, v8)) hF (Nat.lt_succ_self n) h0
def f62 (N : Nat) (a0 : List Int) (a1 : Int) : Option (Int) :=
 joinK f62_c7 fun k0 =>
 f62_2 a0 a1 k0 N (0 : Int)
def G62 (ds : List D) (d : D) : Prop := ∃ (N : Nat) (a0 : List Int) (a1 : Int) (r : Int), ds = [sl_iN a0, iN a1] ∧ f62 N a0 a1 = some r ∧ d = iN r
theorem G62.lend {N : Nat} {a0 : List Int} {a1 : Int} {ρ : Type} {A : Int → Option ρ} {q : ρ} {ds : List D} {K : D → Prop} (hd : ds = [sl_iN a0, iN a1]) (h : ∀ r, A r = some q → K (iN r)) (hF : (f62 N a0 a1).bind A = some q) : ∃ d, (G62 ds d ∧ d.flatB = true) ∧ K d := by
  obtain ⟨r, hr, hA⟩ := bind_some hF
  exact ⟨_, ⟨⟨N, a0, a1, r, hd, hr, rfl⟩, rfl⟩, h r hA⟩
theorem G62.step {N : Nat} {a0 : List Int} {a1 : Int} {ρ : Type} {A : Int → Option ρ} {q : ρ} {ds : List D} {K : D → Prop} (hd : ds = [sl_iN a0, iN a1]) (h : ∀ r, A r = some q → K (iN r)) (hF : (f62 N a0 a1).bind A = some q) : ∃ d, G62 ds d ∧ K d := by
  obtain ⟨r, hr, hA⟩ := bind_some hF
  exact ⟨_, ⟨N, a0, a1, r, hd, hr, rfl⟩, h r hA⟩
set_option maxRecDepth 20000 in
set_option maxHeartbeats 4000000 in
theorem P62 : PureOK Try.prog 62 G62 := by
  refine pure_of_vc (c := mkCtx tyTree []) rfl tyOK (ctx_nil) [[0]] 2 Try.func62 rfl rfl (by decide) (by kernel_rfl) ?_
  rintro ds d ⟨N, a0, a1, r, rfl, hF, rfl⟩ hok
  clear hok
  refine ⟨rfl, ?_⟩
  show vc _ _ _ _ ⟨[(0, .dat (sl_iN a0)), (1, .dat (iN a1))], []⟩ _
  unfold f62 at hF
  repeat' (first
    | ((with_reducible refine q0 _ _ ?_); clear Q q0 q1 q2)
    | ((with_reducible refine q1 _ _ _ _ ?_); clear Q q0 q1 q2)
    | ((with_reducible refine q2 _ _ _ ?_); clear Q q0 q1 q2)
    | ((with_reducible refine seq_op ?hx (fun Q q0 q1 q2 => ?_)); (case hx => exact rfl); conv => whnf)
    | ((with_reducible refine cond_id ?_); (first | ((refine condKT rfl ?hy ?_); (case hy => first | assumption | exact notT (by assumption) | exact rfl)) | ((refine condKF rfl ?hy ?_); (case hy => first | assumption | exact notF (by assumption) | exact rfl)) | (revert hF; (with_reducible refine condF ?hx ?_ ?_); (case hx => exact rfl); all_goals (intro hc hF))))
    | ((with_reducible refine seq_nil ?_); (first | ((with_reducible refine hR _ ?_); clear R hR) | ((with_reducible refine hL _ ?_); clear L hL)))
    | ((with_reducible refine int_step ?_); conv => whnf)
    | ((with_reducible refine len_step ?_); conv => whnf)
    | ((with_reducible refine idx2 (by assumption) ?_); conv => whnf)
    | ((with_reducible refine idx3 (by assumption) ?_); conv => whnf)
    | with_reducible refine vc_block ?_
    | with_reducible refine vc_skip ?_
    | with_reducible refine vc_ret ?_
    | with_reducible refine vc_exit ?_
    | ((with_reducible refine vc_seqN [7] ?hx ?_); (case hx => exact rfl))
    | (with_reducible refine vc_region (fun R hR => ?_))
    | fail
    | (revert hF; (refine Cf62_c7 rfl rfl ?_ ?_); (intro hF); rotate_left; (intro _ hF; unfold f62_c7 at hF); rotate_right)
    | exact Zf62_c7 hF ⟨_, rfl, rfl, rfl, rfl⟩
    | (revert hF; (refine Lf62_2 rfl ⟨_, rfl, rfl, rfl, rfl⟩ ?_); intro n v8 hF; unfold f62_2b at hF)
    | exact Mf62_2 hF ⟨_, rfl, rfl, rfl, rfl⟩
    | with_reducible refine k_seq_ret ?_
    | with_reducible refine k_seq_exit ?_
    | with_reducible refine k_blk ?_
    | with_reducible refine k_blk_ret ?_
    | with_reducible refine k_blk_here ?_
    | ((with_reducible refine k_blk_out ?hx ?_); (case hx => exact rfl))
    | with_reducible refine k_loop_ret ?_
    | with_reducible refine k_loop_exit ?_
    | (revert hF; (with_reducible refine idx1 ?hn ?_); (case hn => first | exact rfl | exact (List.length_map _) | assumption | omega | simp); intro x hx hF; conv => whnf)
    | ((refine row_all ?hn ?_); (case hn => first | exact rfl | (simp; done) | (simp; omega)); conv => whnf)
    | ((with_reducible refine le_step ?hn ?_); (case hn => first | exact rfl | assumption | omega); conv => whnf)
    | ((refine ⟨?hx, ?_⟩); (case hx => exact ⟨rfl, Nat.le_of_ble_eq_true rfl, rfl⟩); conv => whnf)
    | ((with_reducible refine ex_step ?_); conv => whnf)
    | ((with_reducible refine both_T ?hx ?_); (case hx => first | exact rfl | assumption | exact notT (by assumption)); conv => whnf)
    | ((with_reducible refine both_F ?hx ?_); (case hx => first | exact rfl | assumption | exact notF (by assumption)); conv => whnf)
    | (revert hF; (with_reducible refine ite_step ?_ ?_) <;> (intro hc hF; conv => whnf))
    | ((with_reducible refine vc_condT ?hx ?_); (case hx => exact rfl))
    | ((with_reducible refine vc_condF ?hx ?_); (case hx => exact rfl))
    | (show retD _ _ _ _ _ _; conv => whnf)
    | ((refine ⟨?hx, trivial⟩); (case hx => (cases hF; exact rfl)))
    | ((refine ⟨?hx, ?_⟩); (case hx => decide); conv => whnf)
    | ((with_reducible refine k_seq ?_))
    | (have hF : (none : Option _) = some _ := hF; cases hF))
end
end Go.Vc
namespace Go.Vc
open Go.Proofs
set_option linter.unusedVariables false
set_option linter.unnecessarySimpa false
set_option linter.unusedSimpArgs false
section
variable {c : Ctx} {p nid : Nat} {a b : Code} {st : St} {K : Ex → St → Prop}
/- f23: tusche/serial.Digit -/
def f23 (N : Nat) (a0 : List (List Int)) (a1 : List Int) : Option (Int × Int) :=
 (f21 N a0 a1).bind fun x1 =>
 bif decide (¬ x1.2 = (0 : Int)) then (some ((0 : Int), x1.2))
 else ((ix a0 x1.1).bind fun x2 =>
 (f62 N x2 (0 : Int)).bind fun x3 =>
 some (x3, (0 : Int)))
def G23 (ds : List D) (d : D) : Prop := ∃ (N : Nat) (a0 : List (List Int)) (a1 : List Int) (r : Int × Int), ds = [sl_sl_iN a0, sl_iN a1] ∧ f23 N a0 a1 = some r ∧ d = .tup [iN r.1, iN r.2]
theorem G23.lend {N : Nat} {a0 : List (List Int)} {a1 : List Int} {ρ : Type} {A : (Int × Int) → Option ρ} {q : ρ} {ds : List D} {K : D → Prop} (hd : ds = [sl_sl_iN a0, sl_iN a1]) (h : ∀ r, A r = some q → K (.tup [iN r.1, iN r.2])) (hF : (f23 N a0 a1).bind A = some q) : ∃ d, (G23 ds d ∧ d.flatB = true) ∧ K d := by
  obtain ⟨r, hr, hA⟩ := bind_some hF
  exact ⟨_, ⟨⟨N, a0, a1, r, hd, hr, rfl⟩, rfl⟩, h r hA⟩
theorem G23.step {N : Nat} {a0 : List (List Int)} {a1 : List Int} {ρ : Type} {A : (Int × Int) → Option ρ} {q : ρ} {ds : List D} {K : D → Prop} (hd : ds = [sl_sl_iN a0, sl_iN a1]) (h : ∀ r, A r = some q → K (.tup [iN r.1, iN r.2])) (hF : (f23 N a0 a1).bind A = some q) : ∃ d, G23 ds d ∧ K d := by
  obtain ⟨r, hr, hA⟩ := bind_some hF
  exact ⟨_, ⟨N, a0, a1, r, hd, hr, rfl⟩, h r hA⟩
set_option maxRecDepth 20000 in
set_option maxHeartbeats 4000000 in
theorem P23 : PureOK Try.prog 23 G23 := by
  refine pure_of_vc (c := mkCtx tyTree [(62, true, lendPg [[1], [0]] G62), (21, true, lendPg [[1], [1]] G21)]) rfl tyOK (ctx_lend (callable Try.func62 rfl rfl) P62 (ctx_lend (callable Try.func21 rfl rfl) P21 (ctx_nil))) [[0], [0]] 2 Try.func23 rfl rfl (by decide) (by kernel_rfl) ?_
  rintro ds d ⟨N, a0, a1, r, rfl, hF, rfl⟩ hok
  clear hok
  refine ⟨rfl, ?_⟩
  show vc _ _ _ _ ⟨[(0, .dat (sl_sl_iN a0)), (1, .dat (sl_iN a1))], []⟩ _
  unfold f23 at hF
  repeat' (first
    | ((with_reducible refine q0 _ _ ?_); clear Q q0 q1 q2)
    | ((with_reducible refine q1 _ _ _ _ ?_); clear Q q0 q1 q2)
    | ((with_reducible refine q2 _ _ _ ?_); clear Q q0 q1 q2)
    | ((with_reducible refine seq_op ?hx (fun Q q0 q1 q2 => ?_)); (case hx => exact rfl); conv => whnf)
    | ((with_reducible refine cond_id ?_); (first | ((refine condKT rfl ?hy ?_); (case hy => first | assumption | exact notT (by assumption) | exact rfl)) | ((refine condKF rfl ?hy ?_); (case hy => first | assumption | exact notF (by assumption) | exact rfl)) | (revert hF; (with_reducible refine condF ?hx ?_ ?_); (case hx => exact rfl); all_goals (intro hc hF))))
    | ((with_reducible refine seq_nil ?_); (first | ((with_reducible refine hR _ ?_); clear R hR) | ((with_reducible refine hL _ ?_); clear L hL)))
    | ((with_reducible refine int_step ?_); conv => whnf)
    | ((with_reducible refine idx2 (by assumption) ?_); conv => whnf)
    | ((with_reducible refine idx3 (by assumption) ?_); conv => whnf)
    | with_reducible refine vc_block ?_
    | with_reducible refine vc_skip ?_
    | with_reducible refine vc_ret ?_
    | with_reducible refine vc_exit ?_
    | ((with_reducible refine vc_seqN [] ?hx ?_); (case hx => exact rfl))
    | (with_reducible refine vc_region (fun R hR => ?_))
    | fail
    | (revert hF; (with_reducible refine G21.lend ?hx ?_); (case hx => exact rfl); intro v hF; conv => whnf)
    | (revert hF; (with_reducible refine G62.lend ?hx ?_); (case hx => exact rfl); intro v hF; conv => whnf)
    | with_reducible refine k_seq_ret ?_
    | with_reducible refine k_seq_exit ?_
    | with_reducible refine k_blk ?_
    | with_reducible refine k_blk_ret ?_
    | with_reducible refine k_blk_here ?_
    | ((with_reducible refine k_blk_out ?hx ?_); (case hx => exact rfl))
    | (revert hF; (with_reducible refine idx1 ?hn ?_); (case hn => first | exact rfl | exact (List.length_map _) | assumption | omega | simp); intro x hx hF; conv => whnf)
    | ((refine row_all ?hn ?_); (case hn => first | exact rfl | (simp; done) | (simp; omega)); conv => whnf)
    | ((with_reducible refine le_step ?hn ?_); (case hn => first | exact rfl | assumption | omega); conv => whnf)
    | ((refine ⟨?hx, ?_⟩); (case hx => exact ⟨rfl, Nat.le_of_ble_eq_true rfl, rfl⟩); conv => whnf)
    | ((with_reducible refine ex_step ?_); conv => whnf)
    | ((with_reducible refine both_T ?hx ?_); (case hx => first | exact rfl | assumption | exact notT (by assumption)); conv => whnf)
    | ((with_reducible refine both_F ?hx ?_); (case hx => first | exact rfl | assumption | exact notF (by assumption)); conv => whnf)
    | (revert hF; (with_reducible refine ite_step ?_ ?_) <;> (intro hc hF; conv => whnf))
    | ((with_reducible refine vc_condT ?hx ?_); (case hx => exact rfl))
    | ((with_reducible refine vc_condF ?hx ?_); (case hx => exact rfl))
    | (show retD _ _ _ _ _ _; conv => whnf)
    | ((refine ⟨?hx, trivial⟩); (case hx => (cases hF; exact rfl)))
    | ((refine ⟨?hx, ?_⟩); (case hx => decide); conv => whnf)
    | ((with_reducible refine k_seq ?_))
    | (have hF : (none : Option _) = some _ := hF; cases hF))
end
end Go.Vc
namespace Go.Vc
open Go.Proofs
set_option linter.unusedVariables false
set_option linter.unnecessarySimpa false
set_option linter.unusedSimpArgs false
section
variable {c : Ctx} {p nid : Nat} {a b : Code} {st : St} {K : Ex → St → Prop}
/- f63: tusche/serial.coded -/
def f63 (N : Nat) (a0 : List (List Int)) (a1 : List Int) : Option (Int) :=
 (f49 N a0).bind fun x1 =>
 bif decide (¬ x1 = (0 : Int)) then (some (x1))
 else (bif decide ((List.length a1 : Int) < (2 : Int)) then (some ((1 : Int)))
 else ((f58 N a0 a1).bind fun x2 =>
 some (x2)))
def G63 (ds : List D) (d : D) : Prop := ∃ (N : Nat) (a0 : List (List Int)) (a1 : List Int) (r : Int), ds = [sl_sl_iN a0, sl_iN a1] ∧ f63 N a0 a1 = some r ∧ d = iN r
theorem G63.lend {N : Nat} {a0 : List (List Int)} {a1 : List Int} {ρ : Type} {A : Int → Option ρ} {q : ρ} {ds : List D} {K : D → Prop} (hd : ds = [sl_sl_iN a0, sl_iN a1]) (h : ∀ r, A r = some q → K (iN r)) (hF : (f63 N a0 a1).bind A = some q) : ∃ d, (G63 ds d ∧ d.flatB = true) ∧ K d := by
  obtain ⟨r, hr, hA⟩ := bind_some hF
  exact ⟨_, ⟨⟨N, a0, a1, r, hd, hr, rfl⟩, rfl⟩, h r hA⟩
theorem G63.step {N : Nat} {a0 : List (List Int)} {a1 : List Int} {ρ : Type} {A : Int → Option ρ} {q : ρ} {ds : List D} {K : D → Prop} (hd : ds = [sl_sl_iN a0, sl_iN a1]) (h : ∀ r, A r = some q → K (iN r)) (hF : (f63 N a0 a1).bind A = some q) : ∃ d, G63 ds d ∧ K d := by
  obtain ⟨r, hr, hA⟩ := bind_some hF
  exact ⟨_, ⟨N, a0, a1, r, hd, hr, rfl⟩, h r hA⟩
set_option maxRecDepth 20000 in
set_option maxHeartbeats 4000000 in
theorem P63 : PureOK Try.prog 63 G63 := by
  refine pure_of_vc (c := mkCtx tyTree [(58, true, lendPg [[1], [1]] G58), (49, true, lendPg [[1]] G49)]) rfl tyOK (ctx_lend (callable Try.func58 rfl rfl) P58 (ctx_lend (callable Try.func49 rfl rfl) P49 (ctx_nil))) [[0]] 2 Try.func63 rfl rfl (by decide) (by kernel_rfl) ?_
  rintro ds d ⟨N, a0, a1, r, rfl, hF, rfl⟩ hok
  clear hok
  refine ⟨rfl, ?_⟩
  show vc _ _ _ _ ⟨[(0, .dat (sl_sl_iN a0)), (1, .dat (sl_iN a1))], []⟩ _
  unfold f63 at hF
  repeat' (first
    | ((with_reducible refine q0 _ _ ?_); clear Q q0 q1 q2)
    | ((with_reducible refine q1 _ _ _ _ ?_); clear Q q0 q1 q2)
    | ((with_reducible refine q2 _ _ _ ?_); clear Q q0 q1 q2)
    | ((with_reducible refine seq_op ?hx (fun Q q0 q1 q2 => ?_)); (case hx => exact rfl); conv => whnf)
    | ((with_reducible refine cond_id ?_); (first | ((refine condKT rfl ?hy ?_); (case hy => first | assumption | exact notT (by assumption) | exact rfl)) | ((refine condKF rfl ?hy ?_); (case hy => first | assumption | exact notF (by assumption) | exact rfl)) | (revert hF; (with_reducible refine condF ?hx ?_ ?_); (case hx => exact rfl); all_goals (intro hc hF))))
    | ((with_reducible refine seq_nil ?_); (first | ((with_reducible refine hR _ ?_); clear R hR) | ((with_reducible refine hL _ ?_); clear L hL)))
    | ((with_reducible refine int_step ?_); conv => whnf)
    | ((with_reducible refine len_step ?_); conv => whnf)
    | with_reducible refine vc_block ?_
    | with_reducible refine vc_skip ?_
    | with_reducible refine vc_ret ?_
    | with_reducible refine vc_exit ?_
    | ((with_reducible refine vc_seqN [] ?hx ?_); (case hx => exact rfl))
    | (with_reducible refine vc_region (fun R hR => ?_))
    | fail
    | (revert hF; (with_reducible refine G49.lend ?hx ?_); (case hx => exact rfl); intro v hF; conv => whnf)
    | (revert hF; (with_reducible refine G58.lend ?hx ?_); (case hx => exact rfl); intro v hF; conv => whnf)
    | with_reducible refine k_seq_ret ?_
    | with_reducible refine k_seq_exit ?_
    | with_reducible refine k_blk ?_
    | with_reducible refine k_blk_ret ?_
    | with_reducible refine k_blk_here ?_
    | ((with_reducible refine k_blk_out ?hx ?_); (case hx => exact rfl))
    | ((refine row_all ?hn ?_); (case hn => first | exact rfl | (simp; done) | (simp; omega)); conv => whnf)
    | ((with_reducible refine le_step ?hn ?_); (case hn => first | exact rfl | assumption | omega); conv => whnf)
    | ((refine ⟨?hx, ?_⟩); (case hx => exact ⟨rfl, Nat.le_of_ble_eq_true rfl, rfl⟩); conv => whnf)
    | ((with_reducible refine ex_step ?_); conv => whnf)
    | ((with_reducible refine both_T ?hx ?_); (case hx => first | exact rfl | assumption | exact notT (by assumption)); conv => whnf)
    | ((with_reducible refine both_F ?hx ?_); (case hx => first | exact rfl | assumption | exact notF (by assumption)); conv => whnf)
    | (revert hF; (with_reducible refine ite_step ?_ ?_) <;> (intro hc hF; conv => whnf))
    | ((with_reducible refine vc_condT ?hx ?_); (case hx => exact rfl))
    | ((with_reducible refine vc_condF ?hx ?_); (case hx => exact rfl))
    | (show retD _ _ _ _ _ _; conv => whnf)
    | ((refine ⟨?hx, trivial⟩); (case hx => (cases hF; exact rfl)))
    | ((refine ⟨?hx, ?_⟩); (case hx => decide); conv => whnf)
    | ((with_reducible refine k_seq ?_))
    | (have hF : (none : Option _) = some _ := hF; cases hF))
end
end Go.Vc
namespace Go.Vc
open Go.Proofs
set_option linter.unusedVariables false
set_option linter.unnecessarySimpa false
set_option linter.unusedSimpArgs false
section
variable {c : Ctx} {p nid : Nat} {a b : Code} {st : St} {K : Ex → St → Prop}
/- f65: tusche/serial.restored -/
def f65_i205_c7 (a0 : List (List Int)) (a1 : List Int) (a2 : Int) : Option (Int) :=
 some ((-1 : Int))
def Sf65_i205_c7 : Ann := ⟨[], [0, 1, 2], [], []⟩
def Vf65_i205_c7 (a0 : List (List Int)) (a1 : List Int) (a2 : Int) : List SV := []
def Bf65_i205_c7 (a0 : List (List Int)) (a1 : List Int) (a2 : Int) : List Blk := [.box [.dat (sl_sl_iN a0)], .box [.dat (sl_iN a1)], .box [.dat (iN a2)]]
def Yf65_i205_c7 (a0 : List (List Int)) (a1 : List Int) (a2 : Int) (y : Unit) : List SV := Vf65_i205_c7 a0 a1 a2
def Xf65_i205_c7 (a0 : List (List Int)) (a1 : List Int) (a2 : Int) (y : Unit) : List Blk := Bf65_i205_c7 a0 a1 a2
def Jf65_i205_c7 (a0 : List (List Int)) (a1 : List Int) (a2 : Int) (r : Int) (y : Unit) : Prop := f65_i205_c7 a0 a1 a2 = some r
theorem Cf65_i205_c7 {r : Int} {a0 : List (List Int)} {a1 : List Int} {a2 : Int} {g : _ → Option (Int)} (hn : Nat.beq (nid * 1000 + firstRegion b) 206000000007 = true) (hz : Sf65_i205_c7.ok p = true) (h : g (f65_i205_c7 a0 a1 a2) = some r → vc c p nid a st (KHead Sf65_i205_c7 (Yf65_i205_c7 a0 a1 a2) (Xf65_i205_c7 a0 a1 a2) (Jf65_i205_c7 a0 a1 a2 r) K)) (h2 : ∀ (_ : Unit), f65_i205_c7 a0 a1 a2 = some r → vc c p nid b (St.mk' Sf65_i205_c7 (Vf65_i205_c7 a0 a1 a2) (Bf65_i205_c7 a0 a1 a2)) K) (hF : joinK (f65_i205_c7 a0 a1 a2) g = some r) : vc c p nid (.seq a b) st K :=
  vc_cut Sf65_i205_c7 (Yf65_i205_c7 a0 a1 a2) (Xf65_i205_c7 a0 a1 a2) (Jf65_i205_c7 a0 a1 a2 r) hz (h hF) fun y hy => h2 () hy
theorem Zf65_i205_c7 {r : Int} {a0 : List (List Int)} {a1 : List Int} {a2 : Int} (hF : f65_i205_c7 a0 a1 a2 = some r) (h0 : AtH Sf65_i205_c7 st (Vf65_i205_c7 a0 a1 a2) (Bf65_i205_c7 a0 a1 a2)) : KHead Sf65_i205_c7 (Yf65_i205_c7 a0 a1 a2) (Xf65_i205_c7 a0 a1 a2) (Jf65_i205_c7 a0 a1 a2 r) K .normal st := by
  exact khead (I := (Jf65_i205_c7 a0 a1 a2 r)) (x := ()) hF h0
def f65_i205_2b (r2 : Int → Option (Int)) (a0 : List (List Int)) (a1 : List Int) (a2 : Int) (N : Nat) (x3 : List Int) (k0 : Option (Int)) (v8 : Int) : Option (Int) :=
 bif decide (v8 < (List.length x3 : Int)) then ((ix x3 v8).bind fun x4 =>
 (sub a1 (W (a2 + (1 : Int))) (List.length a1 : Int)).bind fun x5 =>
 (f59 N a0 x4 x5).bind fun x6 =>
 bif decide (x6 = (0 : Int)) then (some (v8))
 else (r2 (W (v8 + (1 : Int)))))
 else k0
def f65_i205_2 (a0 : List (List Int)) (a1 : List Int) (a2 : Int) (N : Nat) (x3 : List Int) (k0 : Option (Int)) : Nat → Int → Option (Int)
  | 0, _ => none
  | n + 1, v8 => f65_i205_2b (f65_i205_2 a0 a1 a2 N x3 k0 n) a0 a1 a2 N x3 k0 v8
def Sf65_i205_2 : Ann := ⟨[0, 1, 7, 8], [0, 1, 2], [], []⟩
def Vf65_i205_2 (a0 : List (List Int)) (a1 : List Int) (a2 : Int) (x3 : List Int) (v8 : Int) : List SV := [.dat (sl_iN x3), .fn 89 [] [.ptr 0 0, .ptr 1 0, .ptr 2 0], .dat (iN (List.length x3 : Int)), .dat (iN v8)]
def Bf65_i205_2 (a0 : List (List Int)) (a1 : List Int) (a2 : Int) (x3 : List Int) (v8 : Int) : List Blk := [.box [.dat (sl_sl_iN a0)], .box [.dat (sl_iN a1)], .box [.dat (iN a2)]]
def Yf65_i205_2 (a0 : List (List Int)) (a1 : List Int) (a2 : Int) (x3 : List Int) (y : Nat × Int) : List SV := Vf65_i205_2 a0 a1 a2 x3 y.2
def Xf65_i205_2 (a0 : List (List Int)) (a1 : List Int) (a2 : Int) (x3 : List Int) (y : Nat × Int) : List Blk := Bf65_i205_2 a0 a1 a2 x3 y.2
def Jf65_i205_2 (a0 : List (List Int)) (a1 : List Int) (a2 : Int) (N : Nat) (x3 : List Int) (k0 : Option (Int)) (r : Int) (y : Nat × Int) : Prop := f65_i205_2 a0 a1 a2 N x3 k0 y.1 y.2 = some r
theorem Lf65_i205_2 {r : Int} {a0 : List (List Int)} {a1 : List Int} {a2 : Int} {N : Nat} {x3 : List Int} {k0 : Option (Int)} {fu : Nat} {v8 : Int} (hz : Sf65_i205_2.ok p = true) (h0 : AtH Sf65_i205_2 st (Vf65_i205_2 a0 a1 a2 x3 v8) (Bf65_i205_2 a0 a1 a2 x3 v8)) (h : ∀ (n : Nat) (v8 : Int), f65_i205_2b (f65_i205_2 a0 a1 a2 N x3 k0 n) a0 a1 a2 N x3 k0 v8 = some r → vc c p nid a (St.mk' Sf65_i205_2 (Vf65_i205_2 a0 a1 a2 x3 v8) (Bf65_i205_2 a0 a1 a2 x3 v8)) (Kloop Sf65_i205_2 (Yf65_i205_2 a0 a1 a2 x3) (Xf65_i205_2 a0 a1 a2 x3) (Jf65_i205_2 a0 a1 a2 N x3 k0 r) Prod.fst (n + 1, v8) K)) (hF : f65_i205_2 a0 a1 a2 N x3 k0 fu v8 = some r) : vc c p nid (.loop a) st K := by
  refine vc_loop Sf65_i205_2 (Yf65_i205_2 a0 a1 a2 x3) (Xf65_i205_2 a0 a1 a2 x3) (Jf65_i205_2 a0 a1 a2 N x3 k0 r) Prod.fst hz (kheadL (x := (fu, v8)) hF h0) ?_
  rintro ⟨_ | n, v8⟩ hI
  · cases hI
  · exact h n v8 hI
theorem Mf65_i205_2 {r : Int} {a0 : List (List Int)} {a1 : List Int} {a2 : Int} {N : Nat} {x3 : List Int} {k0 : Option (Int)} {n : Nat} {v8 : Int} {v8_ : Int} (hF : f65_i205_2 a0 a1 a2 N x3 k0 n v8 = some r) (h0 : AtH Sf65_i205_2 st (Vf65_i205_2 a0 a1 a2 x3 v8) (Bf65_i205_2 a0 a1 a2 x3 v8)) : Kloop Sf65_i205_2 (Yf65_i205_2 a0 a1 a2 x3) (Xf65_i205_2 a0 a1 a2 x3) (Jf65_i205_2 a0 a1 a2 N x3 k0 r) Prod.fst (n + 1, v8_) K .normal st := by
  exact kback (y := (n, v8)) hF (Nat.lt_succ_self n) h0
def f65 (N : Nat) (a0 : List (List Int)) (a1 : List Int) (a2 : Int) : Option (Int) :=
 (sub a1 0 a2).bind fun x1 =>
 (f59 N a0 (0 : Int) x1).bind fun x2 =>
 (ix a0 x2).bind fun x3 =>
 joinK (f65_i205_c7 a0 a1 a2) fun k0 =>
 f65_i205_2 a0 a1 a2 N x3 k0 N (0 : Int)
def G65 (ds : List D) (d : D) : Prop := ∃ (N : Nat) (a0 : List (List Int)) (a1 : List Int) (a2 : Int) (r : Int), ds = [sl_sl_iN a0, sl_iN a1, iN a2] ∧ f65 N a0 a1 a2 = some r ∧ d = iN r
theorem G65.lend {N : Nat} {a0 : List (List Int)} {a1 : List Int} {a2 : Int} {ρ : Type} {A : Int → Option ρ} {q : ρ} {ds : List D} {K : D → Prop} (hd : ds = [sl_sl_iN a0, sl_iN a1, iN a2]) (h : ∀ r, A r = some q → K (iN r)) (hF : (f65 N a0 a1 a2).bind A = some q) : ∃ d, (G65 ds d ∧ d.flatB = true) ∧ K d := by
  obtain ⟨r, hr, hA⟩ := bind_some hF
  exact ⟨_, ⟨⟨N, a0, a1, a2, r, hd, hr, rfl⟩, rfl⟩, h r hA⟩
theorem G65.step {N : Nat} {a0 : List (List Int)} {a1 : List Int} {a2 : Int} {ρ : Type} {A : Int → Option ρ} {q : ρ} {ds : List D} {K : D → Prop} (hd : ds = [sl_sl_iN a0, sl_iN a1, iN a2]) (h : ∀ r, A r = some q → K (iN r)) (hF : (f65 N a0 a1 a2).bind A = some q) : ∃ d, G65 ds d ∧ K d := by
  obtain ⟨r, hr, hA⟩ := bind_some hF
  exact ⟨_, ⟨N, a0, a1, a2, r, hd, hr, rfl⟩, h r hA⟩
set_option maxRecDepth 20000 in
set_option maxHeartbeats 4000000 in
theorem P65 : PureOK Try.prog 65 G65 := by
  refine pure_of_vc (c := mkCtx tyTree [(88, false, inlPg (mkCtx tyTree [(89, false, inlPg (mkCtx tyTree [(59, true, lendPg [[1], [0], [1]] G59)]) Try.f89)]) Try.f88), (59, true, lendPg [[1], [0], [1]] G59)]) rfl tyOK (ctx_eff (callable Try.func88 rfl rfl) (CallOK.inl rfl tyOK (ctx_eff (callable Try.func89 rfl rfl) (CallOK.inl rfl tyOK (ctx_lend (callable Try.func59 rfl rfl) P59 (ctx_nil)) Try.func89 (by kernel_rfl)) (ctx_nil)) Try.func88 (by kernel_rfl)) (ctx_lend (callable Try.func59 rfl rfl) P59 (ctx_nil))) [[0]] 3 Try.func65 rfl rfl (by decide) (by kernel_rfl) ?_
  rintro ds d ⟨N, a0, a1, a2, r, rfl, hF, rfl⟩ hok
  clear hok
  refine ⟨rfl, ?_⟩
  show vc _ _ _ _ ⟨[(0, .dat (sl_sl_iN a0)), (1, .dat (sl_iN a1)), (2, .dat (iN a2))], []⟩ _
  unfold f65 at hF
  repeat' (first
    | ((with_reducible refine q0 _ _ ?_); clear Q q0 q1 q2)
    | ((with_reducible refine q1 _ _ _ _ ?_); clear Q q0 q1 q2)
    | ((with_reducible refine q2 _ _ _ ?_); clear Q q0 q1 q2)
    | ((with_reducible refine seq_op ?hx (fun Q q0 q1 q2 => ?_)); (case hx => exact rfl); conv => whnf)
    | ((with_reducible refine draw_op ?hx (fun Q q0 q1 q2 => ?_)); (case hx => exact rfl); conv => whnf)
    | ((with_reducible refine cond_id ?_); (first | ((refine condKT rfl ?hy ?_); (case hy => first | assumption | exact notT (by assumption) | exact rfl)) | ((refine condKF rfl ?hy ?_); (case hy => first | assumption | exact notF (by assumption) | exact rfl)) | (revert hF; (with_reducible refine condF ?hx ?_ ?_); (case hx => exact rfl); all_goals (intro hc hF))))
    | ((with_reducible refine seq_nil ?_); (first | ((with_reducible refine hR _ ?_); clear R hR) | ((with_reducible refine hL _ ?_); clear L hL)))
    | ((with_reducible refine draw_nil ?_); (with_reducible refine hR _ _ ?hx ?_); (case hx => kernel_rfl); (first | clear R hR | clear hR))
    | ((with_reducible refine int_step ?_); conv => whnf)
    | ((with_reducible refine len_step ?_); conv => whnf)
    | ((with_reducible refine idx2 (by assumption) ?_); conv => whnf)
    | ((with_reducible refine idx3 (by assumption) ?_); conv => whnf)
    | with_reducible refine vc_block ?_
    | with_reducible refine vc_skip ?_
    | with_reducible refine vc_ret ?_
    | with_reducible refine vc_exit ?_
    | ((with_reducible refine vc_seqN [206000000007] ?hx ?_); (case hx => exact rfl))
    | (with_reducible refine vc_region (fun R hR => ?_))
    | ((with_reducible refine vc_draw ?hx (fun R hR => ?_)); (case hx => exact rfl))
    | fail
    | (revert hF; (refine Cf65_i205_c7 rfl rfl ?_ ?_); (intro hF); rotate_left; (intro _ hF; unfold f65_i205_c7 at hF); rotate_right)
    | exact Zf65_i205_c7 hF ⟨_, rfl, rfl, rfl, rfl⟩
    | (revert hF; (refine Lf65_i205_2 rfl ⟨_, rfl, rfl, rfl, rfl⟩ ?_); intro n v8 hF; unfold f65_i205_2b at hF)
    | exact Mf65_i205_2 hF ⟨_, rfl, rfl, rfl, rfl⟩
    | (revert hF; (with_reducible refine G59.lend ?hx ?_); (case hx => exact rfl); intro v hF; conv => whnf)
    | with_reducible refine k_seq_ret ?_
    | with_reducible refine k_seq_exit ?_
    | with_reducible refine k_blk ?_
    | with_reducible refine k_blk_ret ?_
    | with_reducible refine k_blk_here ?_
    | ((with_reducible refine k_blk_out ?hx ?_); (case hx => exact rfl))
    | with_reducible refine k_loop_ret ?_
    | with_reducible refine k_loop_exit ?_
    | (revert hF; (with_reducible refine idx1 ?hn ?_); (case hn => first | exact rfl | exact (List.length_map _) | assumption | omega | simp); intro x hx hF; conv => whnf)
    | ((with_reducible have hG := sub_fact hF); clear hF; (refine sub_step hG (fun q hF => ?_)); clear hG; conv => whnf)
    | ((with_reducible refine Or.inr ?_); conv => whnf)
    | ((refine row_all ?hn ?_); (case hn => first | exact rfl | (simp; done) | (simp; omega)); conv => whnf)
    | ((with_reducible refine le_step ?hn ?_); (case hn => first | exact rfl | assumption | omega); conv => whnf)
    | ((refine ⟨?hx, ?_⟩); (case hx => exact ⟨rfl, Nat.le_of_ble_eq_true rfl, rfl⟩); conv => whnf)
    | ((with_reducible refine ex_step ?_); conv => whnf)
    | ((with_reducible refine both_T ?hx ?_); (case hx => first | exact rfl | assumption | exact notT (by assumption)); conv => whnf)
    | ((with_reducible refine both_F ?hx ?_); (case hx => first | exact rfl | assumption | exact notF (by assumption)); conv => whnf)
    | (revert hF; (with_reducible refine ite_step ?_ ?_) <;> (intro hc hF; conv => whnf))
    | ((with_reducible refine vc_condT ?hx ?_); (case hx => exact rfl))
    | ((with_reducible refine vc_condF ?hx ?_); (case hx => exact rfl))
    | (show retD _ _ _ _ _ _; conv => whnf)
    | ((refine inl_step ?ha ?hb ?hc rfl ?_); (case ha => exact rfl); (case hb => omega); (case hc => exact Nat.le_of_ble_eq_true rfl))
    | (show Kinl _ _ _ _ _ _ _; conv => whnf)
    | ((with_reducible refine kinl_step ?ha ?hb ?_); (case ha => exact rfl); (case hb => exact rfl); conv => whnf)
    | ((refine ⟨?hx, trivial⟩); (case hx => (cases hF; exact rfl)))
    | ((refine ⟨?hx, ?_⟩); (case hx => decide); conv => whnf)
    | ((with_reducible refine k_seq ?_))
    | (have hF : (none : Option _) = some _ := hF; cases hF))
end
end Go.Vc
namespace Go.Vc
open Go.Proofs
set_option linter.unusedVariables false
set_option linter.unnecessarySimpa false
set_option linter.unusedSimpArgs false
section
variable {c : Ctx} {p nid : Nat} {a b : Code} {st : St} {K : Ex → St → Prop}
/- f25: tusche/serial.Restore -/
def f25 (N : Nat) (a0 : List (List Int)) (a1 : List Int) (a2 : Int) : Option (Int × Int) :=
 (f63 N a0 a1).bind fun x1 =>
 bif decide (¬ x1 = (0 : Int)) then (some ((0 : Int), x1))
 else ((f64 N (0 : Int) a2 (W ((List.length a1 : Int) - (1 : Int)))).bind fun x2 =>
 bif !x2 then (some ((0 : Int), (5 : Int)))
 else ((f65 N a0 a1 a2).bind fun x3 =>
 some (x3, (0 : Int))))
def G25 (ds : List D) (d : D) : Prop := ∃ (N : Nat) (a0 : List (List Int)) (a1 : List Int) (a2 : Int) (r : Int × Int), ds = [sl_sl_iN a0, sl_iN a1, iN a2] ∧ f25 N a0 a1 a2 = some r ∧ d = .tup [iN r.1, iN r.2]
theorem G25.lend {N : Nat} {a0 : List (List Int)} {a1 : List Int} {a2 : Int} {ρ : Type} {A : (Int × Int) → Option ρ} {q : ρ} {ds : List D} {K : D → Prop} (hd : ds = [sl_sl_iN a0, sl_iN a1, iN a2]) (h : ∀ r, A r = some q → K (.tup [iN r.1, iN r.2])) (hF : (f25 N a0 a1 a2).bind A = some q) : ∃ d, (G25 ds d ∧ d.flatB = true) ∧ K d := by
  obtain ⟨r, hr, hA⟩ := bind_some hF
  exact ⟨_, ⟨⟨N, a0, a1, a2, r, hd, hr, rfl⟩, rfl⟩, h r hA⟩
theorem G25.step {N : Nat} {a0 : List (List Int)} {a1 : List Int} {a2 : Int} {ρ : Type} {A : (Int × Int) → Option ρ} {q : ρ} {ds : List D} {K : D → Prop} (hd : ds = [sl_sl_iN a0, sl_iN a1, iN a2]) (h : ∀ r, A r = some q → K (.tup [iN r.1, iN r.2])) (hF : (f25 N a0 a1 a2).bind A = some q) : ∃ d, G25 ds d ∧ K d := by
  obtain ⟨r, hr, hA⟩ := bind_some hF
  exact ⟨_, ⟨N, a0, a1, a2, r, hd, hr, rfl⟩, h r hA⟩
set_option maxRecDepth 20000 in
set_option maxHeartbeats 4000000 in
theorem P25 : PureOK Try.prog 25 G25 := by
  refine pure_of_vc (c := mkCtx tyTree [(65, true, lendPg [[1], [1], [0]] G65), (64, true, lendPg [[0], [0], [0]] G64), (63, true, lendPg [[1], [1]] G63)]) rfl tyOK (ctx_lend (callable Try.func65 rfl rfl) P65 (ctx_lend (callable Try.func64 rfl rfl) P64 (ctx_lend (callable Try.func63 rfl rfl) P63 (ctx_nil)))) [[0], [0]] 3 Try.func25 rfl rfl (by decide) (by kernel_rfl) ?_
  rintro ds d ⟨N, a0, a1, a2, r, rfl, hF, rfl⟩ hok
  clear hok
  refine ⟨rfl, ?_⟩
  show vc _ _ _ _ ⟨[(0, .dat (sl_sl_iN a0)), (1, .dat (sl_iN a1)), (2, .dat (iN a2))], []⟩ _
  unfold f25 at hF
  repeat' (first
    | ((with_reducible refine q0 _ _ ?_); clear Q q0 q1 q2)
    | ((with_reducible refine q1 _ _ _ _ ?_); clear Q q0 q1 q2)
    | ((with_reducible refine q2 _ _ _ ?_); clear Q q0 q1 q2)
    | ((with_reducible refine seq_op ?hx (fun Q q0 q1 q2 => ?_)); (case hx => exact rfl); conv => whnf)
    | ((with_reducible refine cond_id ?_); (first | ((refine condKT rfl ?hy ?_); (case hy => first | assumption | exact notT (by assumption) | exact rfl)) | ((refine condKF rfl ?hy ?_); (case hy => first | assumption | exact notF (by assumption) | exact rfl)) | (revert hF; (with_reducible refine condF ?hx ?_ ?_); (case hx => exact rfl); all_goals (intro hc hF))))
    | ((with_reducible refine seq_nil ?_); (first | ((with_reducible refine hR _ ?_); clear R hR) | ((with_reducible refine hL _ ?_); clear L hL)))
    | ((with_reducible refine int_step ?_); conv => whnf)
    | ((with_reducible refine len_step ?_); conv => whnf)
    | with_reducible refine vc_block ?_
    | with_reducible refine vc_skip ?_
    | with_reducible refine vc_ret ?_
    | with_reducible refine vc_exit ?_
    | ((with_reducible refine vc_seqN [] ?hx ?_); (case hx => exact rfl))
    | (with_reducible refine vc_region (fun R hR => ?_))
    | fail
    | (revert hF; (with_reducible refine G63.lend ?hx ?_); (case hx => exact rfl); intro v hF; conv => whnf)
    | (revert hF; (with_reducible refine G64.lend ?hx ?_); (case hx => exact rfl); intro v hF; conv => whnf)
    | (revert hF; (with_reducible refine G65.lend ?hx ?_); (case hx => exact rfl); intro v hF; conv => whnf)
    | with_reducible refine k_seq_ret ?_
    | with_reducible refine k_seq_exit ?_
    | with_reducible refine k_blk ?_
    | with_reducible refine k_blk_ret ?_
    | with_reducible refine k_blk_here ?_
    | ((with_reducible refine k_blk_out ?hx ?_); (case hx => exact rfl))
    | ((refine row_all ?hn ?_); (case hn => first | exact rfl | (simp; done) | (simp; omega)); conv => whnf)
    | ((with_reducible refine le_step ?hn ?_); (case hn => first | exact rfl | assumption | omega); conv => whnf)
    | ((refine ⟨?hx, ?_⟩); (case hx => exact ⟨rfl, Nat.le_of_ble_eq_true rfl, rfl⟩); conv => whnf)
    | ((with_reducible refine ex_step ?_); conv => whnf)
    | ((with_reducible refine both_T ?hx ?_); (case hx => first | exact rfl | assumption | exact notT (by assumption)); conv => whnf)
    | ((with_reducible refine both_F ?hx ?_); (case hx => first | exact rfl | assumption | exact notF (by assumption)); conv => whnf)
    | (revert hF; (with_reducible refine ite_step ?_ ?_) <;> (intro hc hF; conv => whnf))
    | ((with_reducible refine vc_condT ?hx ?_); (case hx => exact rfl))
    | ((with_reducible refine vc_condF ?hx ?_); (case hx => exact rfl))
    | (show retD _ _ _ _ _ _; conv => whnf)
    | ((refine ⟨?hx, trivial⟩); (case hx => (cases hF; exact rfl)))
    | ((refine ⟨?hx, ?_⟩); (case hx => decide); conv => whnf)
    | ((with_reducible refine k_seq ?_))
    | (have hF : (none : Option _) = some _ := hF; cases hF))
end
end Go.Vc
namespace Go.Vc
open Go.Proofs
set_option linter.unusedVariables false
set_option linter.unnecessarySimpa false
set_option linter.unusedSimpArgs false
section
variable {c : Ctx} {p nid : Nat} {a b : Code} {st : St} {K : Ex → St → Prop}
/- f27: tusche/serial.Right -/
def f27 (N : Nat) (a0 : List (List Int)) (a1 : List Int) : Option (Int) :=
 (f63 N a0 a1).bind fun x1 =>
 bif decide (x1 = (0 : Int)) then ((f59 N a0 (0 : Int) a1).bind fun x2 =>
 bif decide (¬ x2 = (0 : Int)) then (some ((13 : Int)))
 else (some (x1)))
 else (some (x1))
def G27 (ds : List D) (d : D) : Prop := ∃ (N : Nat) (a0 : List (List Int)) (a1 : List Int) (r : Int), ds = [sl_sl_iN a0, sl_iN a1] ∧ f27 N a0 a1 = some r ∧ d = iN r
theorem G27.lend {N : Nat} {a0 : List (List Int)} {a1 : List Int} {ρ : Type} {A : Int → Option ρ} {q : ρ} {ds : List D} {K : D → Prop} (hd : ds = [sl_sl_iN a0, sl_iN a1]) (h : ∀ r, A r = some q → K (iN r)) (hF : (f27 N a0 a1).bind A = some q) : ∃ d, (G27 ds d ∧ d.flatB = true) ∧ K d := by
  obtain ⟨r, hr, hA⟩ := bind_some hF
  exact ⟨_, ⟨⟨N, a0, a1, r, hd, hr, rfl⟩, rfl⟩, h r hA⟩
theorem G27.step {N : Nat} {a0 : List (List Int)} {a1 : List Int} {ρ : Type} {A : Int → Option ρ} {q : ρ} {ds : List D} {K : D → Prop} (hd : ds = [sl_sl_iN a0, sl_iN a1]) (h : ∀ r, A r = some q → K (iN r)) (hF : (f27 N a0 a1).bind A = some q) : ∃ d, G27 ds d ∧ K d := by
  obtain ⟨r, hr, hA⟩ := bind_some hF
  exact ⟨_, ⟨N, a0, a1, r, hd, hr, rfl⟩, h r hA⟩
set_option maxRecDepth 20000 in
set_option maxHeartbeats 4000000 in
theorem P27 : PureOK Try.prog 27 G27 := by
  refine pure_of_vc (c := mkCtx tyTree [(63, true, lendPg [[1], [1]] G63), (59, true, lendPg [[1], [0], [1]] G59)]) rfl tyOK (ctx_lend (callable Try.func63 rfl rfl) P63 (ctx_lend (callable Try.func59 rfl rfl) P59 (ctx_nil))) [[0]] 2 Try.func27 rfl rfl (by decide) (by kernel_rfl) ?_
  rintro ds d ⟨N, a0, a1, r, rfl, hF, rfl⟩ hok
  clear hok
  refine ⟨rfl, ?_⟩
  show vc _ _ _ _ ⟨[(0, .dat (sl_sl_iN a0)), (1, .dat (sl_iN a1))], []⟩ _
  unfold f27 at hF
  repeat' (first
    | ((with_reducible refine q0 _ _ ?_); clear Q q0 q1 q2)
    | ((with_reducible refine q1 _ _ _ _ ?_); clear Q q0 q1 q2)
    | ((with_reducible refine q2 _ _ _ ?_); clear Q q0 q1 q2)
    | ((with_reducible refine seq_op ?hx (fun Q q0 q1 q2 => ?_)); (case hx => exact rfl); conv => whnf)
    | ((with_reducible refine seq_off ?hx ?_); (case hx => exact rfl))
    | ((with_reducible refine seq_off0 ?hx ?_); (case hx => exact rfl))
    | ((with_reducible refine seq_id ?_); (first | ((refine seq_opK rfl ?hy (fun Q q0 q1 q2 => ?_)); (case hy => first | assumption | exact notT (by assumption) | exact rfl); conv => whnf) | ((refine seq_offK rfl ?hy ?_); (case hy => first | assumption | exact notF (by assumption) | exact rfl)) | ((refine seq_opK0 rfl ?hy (fun Q q0 q1 q2 => ?_)); (case hy => first | assumption | exact notT (by assumption) | exact rfl); conv => whnf) | ((refine seq_offK0 rfl ?hy ?_); (case hy => first | assumption | exact notF (by assumption) | exact rfl)) | (revert hF; (with_reducible refine seq_opF ?hx ?_ ?_); (case hx => exact rfl); (intro hc hF Q q0 q1 q2; conv => whnf); rotate_left; (intro hc hF); rotate_right) | (revert hF; (with_reducible refine seq_opN ?hx ?_ ?_); (case hx => exact rfl); (intro hc hF); rotate_left; (intro hc hF Q q0 q1 q2; conv => whnf); rotate_right) | (revert hF; (with_reducible refine seq_opF0 ?hx ?_ ?_); (case hx => exact rfl); (intro hc hF Q q0 q1 q2; conv => whnf); rotate_left; (intro hc hF); rotate_right) | (revert hF; (with_reducible refine seq_opN0 ?hx ?_ ?_); (case hx => exact rfl); (intro hc hF); rotate_left; (intro hc hF Q q0 q1 q2; conv => whnf); rotate_right)))
    | ((with_reducible refine cond_id ?_); (first | ((refine condKT rfl ?hy ?_); (case hy => first | assumption | exact notT (by assumption) | exact rfl)) | ((refine condKF rfl ?hy ?_); (case hy => first | assumption | exact notF (by assumption) | exact rfl)) | (revert hF; (with_reducible refine condF ?hx ?_ ?_); (case hx => exact rfl); all_goals (intro hc hF))))
    | ((with_reducible refine seq_nil ?_); (first | ((with_reducible refine hR _ ?_); clear R hR) | ((with_reducible refine hL _ ?_); clear L hL)))
    | ((with_reducible refine int_step ?_); conv => whnf)
    | with_reducible refine vc_block ?_
    | with_reducible refine vc_skip ?_
    | with_reducible refine vc_ret ?_
    | with_reducible refine vc_exit ?_
    | ((with_reducible refine vc_seqN [] ?hx ?_); (case hx => exact rfl))
    | (with_reducible refine vc_region (fun R hR => ?_))
    | fail
    | (revert hF; (with_reducible refine G59.lend ?hx ?_); (case hx => exact rfl); intro v hF; conv => whnf)
    | (revert hF; (with_reducible refine G63.lend ?hx ?_); (case hx => exact rfl); intro v hF; conv => whnf)
    | with_reducible refine k_seq_ret ?_
    | with_reducible refine k_seq_exit ?_
    | with_reducible refine k_blk ?_
    | with_reducible refine k_blk_ret ?_
    | with_reducible refine k_blk_here ?_
    | ((with_reducible refine k_blk_out ?hx ?_); (case hx => exact rfl))
    | ((refine row_all ?hn ?_); (case hn => first | exact rfl | (simp; done) | (simp; omega)); conv => whnf)
    | ((with_reducible refine le_step ?hn ?_); (case hn => first | exact rfl | assumption | omega); conv => whnf)
    | ((refine ⟨?hx, ?_⟩); (case hx => exact ⟨rfl, Nat.le_of_ble_eq_true rfl, rfl⟩); conv => whnf)
    | ((with_reducible refine ex_step ?_); conv => whnf)
    | ((with_reducible refine both_T ?hx ?_); (case hx => first | exact rfl | assumption | exact notT (by assumption)); conv => whnf)
    | ((with_reducible refine both_F ?hx ?_); (case hx => first | exact rfl | assumption | exact notF (by assumption)); conv => whnf)
    | (revert hF; (with_reducible refine ite_step ?_ ?_) <;> (intro hc hF; conv => whnf))
    | ((with_reducible refine vc_condT ?hx ?_); (case hx => exact rfl))
    | ((with_reducible refine vc_condF ?hx ?_); (case hx => exact rfl))
    | (show retD _ _ _ _ _ _; conv => whnf)
    | ((refine ⟨?hx, trivial⟩); (case hx => (cases hF; exact rfl)))
    | ((refine ⟨?hx, ?_⟩); (case hx => decide); conv => whnf)
    | ((with_reducible refine k_seq ?_))
    | (have hF : (none : Option _) = some _ := hF; cases hF))
end
end Go.Vc
namespace Go.Vc
open Go.Proofs
set_option linter.unusedVariables false
set_option linter.unnecessarySimpa false
set_option linter.unusedSimpArgs false
section
variable {c : Ctx} {p nid : Nat} {a b : Code} {st : St} {K : Ex → St → Prop}
/- f68: tusche/serial.wrong -/
def f68 (N : Nat) (a0 : List (List Int)) (a1 : List Int) : Option (Int) :=
 (f63 N a0 a1).bind fun x1 =>
 bif decide (x1 = (0 : Int)) then ((f59 N a0 (0 : Int) a1).bind fun x2 =>
 bif decide (x2 = (0 : Int)) then (some ((20 : Int)))
 else (some (x1)))
 else (some (x1))
def G68 (ds : List D) (d : D) : Prop := ∃ (N : Nat) (a0 : List (List Int)) (a1 : List Int) (r : Int), ds = [sl_sl_iN a0, sl_iN a1] ∧ f68 N a0 a1 = some r ∧ d = iN r
theorem G68.lend {N : Nat} {a0 : List (List Int)} {a1 : List Int} {ρ : Type} {A : Int → Option ρ} {q : ρ} {ds : List D} {K : D → Prop} (hd : ds = [sl_sl_iN a0, sl_iN a1]) (h : ∀ r, A r = some q → K (iN r)) (hF : (f68 N a0 a1).bind A = some q) : ∃ d, (G68 ds d ∧ d.flatB = true) ∧ K d := by
  obtain ⟨r, hr, hA⟩ := bind_some hF
  exact ⟨_, ⟨⟨N, a0, a1, r, hd, hr, rfl⟩, rfl⟩, h r hA⟩
theorem G68.step {N : Nat} {a0 : List (List Int)} {a1 : List Int} {ρ : Type} {A : Int → Option ρ} {q : ρ} {ds : List D} {K : D → Prop} (hd : ds = [sl_sl_iN a0, sl_iN a1]) (h : ∀ r, A r = some q → K (iN r)) (hF : (f68 N a0 a1).bind A = some q) : ∃ d, G68 ds d ∧ K d := by
  obtain ⟨r, hr, hA⟩ := bind_some hF
  exact ⟨_, ⟨N, a0, a1, r, hd, hr, rfl⟩, h r hA⟩
set_option maxRecDepth 20000 in
set_option maxHeartbeats 4000000 in
theorem P68 : PureOK Try.prog 68 G68 := by
  refine pure_of_vc (c := mkCtx tyTree [(63, true, lendPg [[1], [1]] G63), (59, true, lendPg [[1], [0], [1]] G59)]) rfl tyOK (ctx_lend (callable Try.func63 rfl rfl) P63 (ctx_lend (callable Try.func59 rfl rfl) P59 (ctx_nil))) [[0]] 2 Try.func68 rfl rfl (by decide) (by kernel_rfl) ?_
  rintro ds d ⟨N, a0, a1, r, rfl, hF, rfl⟩ hok
  clear hok
  refine ⟨rfl, ?_⟩
  show vc _ _ _ _ ⟨[(0, .dat (sl_sl_iN a0)), (1, .dat (sl_iN a1))], []⟩ _
  unfold f68 at hF
  repeat' (first
    | ((with_reducible refine q0 _ _ ?_); clear Q q0 q1 q2)
    | ((with_reducible refine q1 _ _ _ _ ?_); clear Q q0 q1 q2)
    | ((with_reducible refine q2 _ _ _ ?_); clear Q q0 q1 q2)
    | ((with_reducible refine seq_op ?hx (fun Q q0 q1 q2 => ?_)); (case hx => exact rfl); conv => whnf)
    | ((with_reducible refine seq_off ?hx ?_); (case hx => exact rfl))
    | ((with_reducible refine seq_off0 ?hx ?_); (case hx => exact rfl))
    | ((with_reducible refine seq_id ?_); (first | ((refine seq_opK rfl ?hy (fun Q q0 q1 q2 => ?_)); (case hy => first | assumption | exact notT (by assumption) | exact rfl); conv => whnf) | ((refine seq_offK rfl ?hy ?_); (case hy => first | assumption | exact notF (by assumption) | exact rfl)) | ((refine seq_opK0 rfl ?hy (fun Q q0 q1 q2 => ?_)); (case hy => first | assumption | exact notT (by assumption) | exact rfl); conv => whnf) | ((refine seq_offK0 rfl ?hy ?_); (case hy => first | assumption | exact notF (by assumption) | exact rfl)) | (revert hF; (with_reducible refine seq_opF ?hx ?_ ?_); (case hx => exact rfl); (intro hc hF Q q0 q1 q2; conv => whnf); rotate_left; (intro hc hF); rotate_right) | (revert hF; (with_reducible refine seq_opN ?hx ?_ ?_); (case hx => exact rfl); (intro hc hF); rotate_left; (intro hc hF Q q0 q1 q2; conv => whnf); rotate_right) | (revert hF; (with_reducible refine seq_opF0 ?hx ?_ ?_); (case hx => exact rfl); (intro hc hF Q q0 q1 q2; conv => whnf); rotate_left; (intro hc hF); rotate_right) | (revert hF; (with_reducible refine seq_opN0 ?hx ?_ ?_); (case hx => exact rfl); (intro hc hF); rotate_left; (intro hc hF Q q0 q1 q2; conv => whnf); rotate_right)))
    | ((with_reducible refine cond_id ?_); (first | ((refine condKT rfl ?hy ?_); (case hy => first | assumption | exact notT (by assumption) | exact rfl)) | ((refine condKF rfl ?hy ?_); (case hy => first | assumption | exact notF (by assumption) | exact rfl)) | (revert hF; (with_reducible refine condF ?hx ?_ ?_); (case hx => exact rfl); all_goals (intro hc hF))))
    | ((with_reducible refine seq_nil ?_); (first | ((with_reducible refine hR _ ?_); clear R hR) | ((with_reducible refine hL _ ?_); clear L hL)))
    | ((with_reducible refine int_step ?_); conv => whnf)
    | with_reducible refine vc_block ?_
    | with_reducible refine vc_skip ?_
    | with_reducible refine vc_ret ?_
    | with_reducible refine vc_exit ?_
    | ((with_reducible refine vc_seqN [] ?hx ?_); (case hx => exact rfl))
    | (with_reducible refine vc_region (fun R hR => ?_))
    | fail
    | (revert hF; (with_reducible refine G59.lend ?hx ?_); (case hx => exact rfl); intro v hF; conv => whnf)
    | (revert hF; (with_reducible refine G63.lend ?hx ?_); (case hx => exact rfl); intro v hF; conv => whnf)
    | with_reducible refine k_seq_ret ?_
    | with_reducible refine k_seq_exit ?_
    | with_reducible refine k_blk ?_
    | with_reducible refine k_blk_ret ?_
    | with_reducible refine k_blk_here ?_
    | ((with_reducible refine k_blk_out ?hx ?_); (case hx => exact rfl))
    | ((refine row_all ?hn ?_); (case hn => first | exact rfl | (simp; done) | (simp; omega)); conv => whnf)
    | ((with_reducible refine le_step ?hn ?_); (case hn => first | exact rfl | assumption | omega); conv => whnf)
    | ((refine ⟨?hx, ?_⟩); (case hx => exact ⟨rfl, Nat.le_of_ble_eq_true rfl, rfl⟩); conv => whnf)
    | ((with_reducible refine ex_step ?_); conv => whnf)
    | ((with_reducible refine both_T ?hx ?_); (case hx => first | exact rfl | assumption | exact notT (by assumption)); conv => whnf)
    | ((with_reducible refine both_F ?hx ?_); (case hx => first | exact rfl | assumption | exact notF (by assumption)); conv => whnf)
    | (revert hF; (with_reducible refine ite_step ?_ ?_) <;> (intro hc hF; conv => whnf))
    | ((with_reducible refine vc_condT ?hx ?_); (case hx => exact rfl))
    | ((with_reducible refine vc_condF ?hx ?_); (case hx => exact rfl))
    | (show retD _ _ _ _ _ _; conv => whnf)
    | ((refine ⟨?hx, trivial⟩); (case hx => (cases hF; exact rfl)))
    | ((refine ⟨?hx, ?_⟩); (case hx => decide); conv => whnf)
    | ((with_reducible refine k_seq ?_))
    | (have hF : (none : Option _) = some _ := hF; cases hF))
end
end Go.Vc
namespace Go.Vc
open Go.Proofs
set_option linter.unusedVariables false
set_option linter.unnecessarySimpa false
set_option linter.unusedSimpArgs false
section
variable {c : Ctx} {p nid : Nat} {a b : Code} {st : St} {K : Ex → St → Prop}
/- f29: tusche/serial.Fixes -/
def f29_c10 (out7 : List Fix) : Option ((List Fix) × Int) :=
 some (out7, (0 : Int))
def Sf29_c10 : Ann := ⟨[7], [90007], [(.slot 7, 90007, 55, 2)], []⟩
def Vf29_c10 (out7 : List Fix) : List SV := [.rs 90007 (List.length out7)]
def Bf29_c10 (out7 : List Fix) : List Blk := [.row 55 2 (List.map Fix.d out7)]
def Yf29_c10 (y : (List Fix)) : List SV := Vf29_c10 y
def Xf29_c10 (y : (List Fix)) : List Blk := Bf29_c10 y
def Jf29_c10 (r : (List Fix) × Int) (y : (List Fix)) : Prop := f29_c10 y = some r
def V2f29_c10 (out7 : List Fix) (m0 : Nat) : List SV := [.rs 90007 m0]
def B2f29_c10 (out7 : List Fix) (m0 : Nat) : List Blk := [.row 55 2 (List.map Fix.d out7)]
theorem Cf29_c10 {r : (List Fix) × Int} {g : _ → Option ((List Fix) × Int)} (hn : Nat.beq (nid * 1000 + firstRegion b) 10 = true) (hz : Sf29_c10.ok p = true) (h : g f29_c10 = some r → vc c p nid a st (KHead Sf29_c10 Yf29_c10 Xf29_c10 (Jf29_c10 r) K)) (h2 : ∀ (out7 : List Fix), f29_c10 out7 = some r → vc c p nid b (St.mk' Sf29_c10 (Vf29_c10 out7) (Bf29_c10 out7)) K) (hF : joinK f29_c10 g = some r) : vc c p nid (.seq a b) st K :=
  vc_cut Sf29_c10 Yf29_c10 Xf29_c10 (Jf29_c10 r) hz (h hF) fun y hy => h2 y hy
theorem Zf29_c10 {r : (List Fix) × Int} {out7 : List Fix} {m0 : Nat} (hF : f29_c10 out7 = some r) (h0 : AtH Sf29_c10 st (V2f29_c10 out7 m0) (B2f29_c10 out7 m0)) (em0 : m0 = List.length out7) : KHead Sf29_c10 Yf29_c10 Xf29_c10 (Jf29_c10 r) K .normal st := by
  subst em0; exact khead (I := (Jf29_c10 r)) (x := (out7)) hF h0
def f29_6b (r6 : (List Fix) → Int → Option ((List Fix) × Int)) (a0 : List (List Int)) (a1 : List Int) (N : Nat) (k0 : (List Fix) → Option ((List Fix) × Int)) (out7 : List Fix) (v17 : Int) : Option ((List Fix) × Int) :=
 bif decide (v17 < (List.length a1 : Int)) then ((f65 N a0 a1 v17).bind fun x2 =>
 (app 16 out7 [(Fix.mk v17 x2)]).bind fun x3 =>
 r6 x3 (W (v17 + (1 : Int))))
 else (k0 out7)
def f29_6 (a0 : List (List Int)) (a1 : List Int) (N : Nat) (k0 : (List Fix) → Option ((List Fix) × Int)) : Nat → (List Fix) → Int → Option ((List Fix) × Int)
  | 0, _, _ => none
  | n + 1, out7, v17 => f29_6b (f29_6 a0 a1 N k0 n) a0 a1 N k0 out7 v17
def Sf29_6 : Ann := ⟨[0, 1, 7, 16, 17], [90007], [(.slot 7, 90007, 55, 2)], []⟩
def Vf29_6 (a0 : List (List Int)) (a1 : List Int) (out7 : List Fix) (v17 : Int) : List SV := [.dat (sl_sl_iN a0), .dat (sl_iN a1), .rs 90007 (List.length out7), .dat (iN (List.length a1 : Int)), .dat (iN v17)]
def Bf29_6 (a0 : List (List Int)) (a1 : List Int) (out7 : List Fix) (v17 : Int) : List Blk := [.row 55 2 (List.map Fix.d out7)]
def Yf29_6 (a0 : List (List Int)) (a1 : List Int) (y : Nat × (List Fix) × Int) : List SV := Vf29_6 a0 a1 y.2.1 y.2.2
def Xf29_6 (a0 : List (List Int)) (a1 : List Int) (y : Nat × (List Fix) × Int) : List Blk := Bf29_6 a0 a1 y.2.1 y.2.2
def Jf29_6 (a0 : List (List Int)) (a1 : List Int) (N : Nat) (k0 : (List Fix) → Option ((List Fix) × Int)) (r : (List Fix) × Int) (y : Nat × (List Fix) × Int) : Prop := f29_6 a0 a1 N k0 y.1 y.2.1 y.2.2 = some r
def V2f29_6 (a0 : List (List Int)) (a1 : List Int) (out7 : List Fix) (v17 : Int) (m0 : Nat) : List SV := [.dat (sl_sl_iN a0), .dat (sl_iN a1), .rs 90007 m0, .dat (iN (List.length a1 : Int)), .dat (iN v17)]
def B2f29_6 (a0 : List (List Int)) (a1 : List Int) (out7 : List Fix) (v17 : Int) (m0 : Nat) : List Blk := [.row 55 2 (List.map Fix.d out7)]
theorem Lf29_6 {r : (List Fix) × Int} {a0 : List (List Int)} {a1 : List Int} {N : Nat} {k0 : (List Fix) → Option ((List Fix) × Int)} {fu : Nat} {out7 : List Fix} {v17 : Int} {m0 : Nat} (hz : Sf29_6.ok p = true) (h0 : AtH Sf29_6 st (V2f29_6 a0 a1 out7 v17 m0) (B2f29_6 a0 a1 out7 v17 m0)) (em0 : m0 = List.length out7) (h : ∀ (n : Nat) (out7 : List Fix) (v17 : Int), f29_6b (f29_6 a0 a1 N k0 n) a0 a1 N k0 out7 v17 = some r → vc c p nid a (St.mk' Sf29_6 (Vf29_6 a0 a1 out7 v17) (Bf29_6 a0 a1 out7 v17)) (Kloop Sf29_6 (Yf29_6 a0 a1) (Xf29_6 a0 a1) (Jf29_6 a0 a1 N k0 r) Prod.fst (n + 1, out7, v17) K)) (hF : f29_6 a0 a1 N k0 fu out7 v17 = some r) : vc c p nid (.loop a) st K := by
  subst em0; refine vc_loop Sf29_6 (Yf29_6 a0 a1) (Xf29_6 a0 a1) (Jf29_6 a0 a1 N k0 r) Prod.fst hz (kheadL (x := (fu, out7, v17)) hF h0) ?_
  rintro ⟨_ | n, out7, v17⟩ hI
  · cases hI
  · exact h n out7 v17 hI
theorem Mf29_6 {r : (List Fix) × Int} {a0 : List (List Int)} {a1 : List Int} {N : Nat} {k0 : (List Fix) → Option ((List Fix) × Int)} {n : Nat} {out7 : List Fix} {v17 : Int} {out7_ : List Fix} {v17_ : Int} {m0 : Nat} (hF : f29_6 a0 a1 N k0 n out7 v17 = some r) (h0 : AtH Sf29_6 st (V2f29_6 a0 a1 out7 v17 m0) (B2f29_6 a0 a1 out7 v17 m0)) (em0 : m0 = List.length out7) : Kloop Sf29_6 (Yf29_6 a0 a1) (Xf29_6 a0 a1) (Jf29_6 a0 a1 N k0 r) Prod.fst (n + 1, out7_, v17_) K .normal st := by
  subst em0; exact kback (y := (n, out7, v17)) hF (Nat.lt_succ_self n) h0
def f29 (N : Nat) (a0 : List (List Int)) (a1 : List Int) : Option ((List Fix) × Int) :=
 (f68 N a0 a1).bind fun x1 =>
 bif decide (¬ x1 = (0 : Int)) then (some ([], x1))
 else (joinK f29_c10 fun k0 =>
 f29_6 a0 a1 N k0 N [] (0 : Int))
def G29 (ds : List D) (d : D) : Prop := ∃ (N : Nat) (a0 : List (List Int)) (a1 : List Int) (r : (List Fix) × Int), ds = [sl_sl_iN a0, sl_iN a1] ∧ f29 N a0 a1 = some r ∧ d = .tup [sl_Fix r.1, iN r.2]
theorem G29.step {N : Nat} {a0 : List (List Int)} {a1 : List Int} {ρ : Type} {A : ((List Fix) × Int) → Option ρ} {q : ρ} {ds : List D} {K : D → Prop} (hd : ds = [sl_sl_iN a0, sl_iN a1]) (h : ∀ r, A r = some q → K (.tup [sl_Fix r.1, iN r.2])) (hF : (f29 N a0 a1).bind A = some q) : ∃ d, G29 ds d ∧ K d := by
  obtain ⟨r, hr, hA⟩ := bind_some hF
  exact ⟨_, ⟨N, a0, a1, r, hd, hr, rfl⟩, h r hA⟩
set_option maxRecDepth 20000 in
set_option maxHeartbeats 4000000 in
theorem P29 : PureOK Try.prog 29 G29 := by
  refine pure_of_vc (c := mkCtx tyTree [(68, true, lendPg [[1], [1]] G68), (65, true, lendPg [[1], [1], [0]] G65)]) rfl tyOK (ctx_lend (callable Try.func68 rfl rfl) P68 (ctx_lend (callable Try.func65 rfl rfl) P65 (ctx_nil))) [[2], [0]] 2 Try.func29 rfl rfl (by decide) (by kernel_rfl) ?_
  rintro ds d ⟨N, a0, a1, r, rfl, hF, rfl⟩ hok
  clear hok
  refine ⟨rfl, ?_⟩
  show vc _ _ _ _ ⟨[(0, .dat (sl_sl_iN a0)), (1, .dat (sl_iN a1))], []⟩ _
  unfold f29 at hF
  repeat' (first
    | ((with_reducible refine q0 _ _ ?_); clear Q q0 q1 q2)
    | ((with_reducible refine q1 _ _ _ _ ?_); clear Q q0 q1 q2)
    | ((with_reducible refine q2 _ _ _ ?_); clear Q q0 q1 q2)
    | ((with_reducible refine seq_op ?hx (fun Q q0 q1 q2 => ?_)); (case hx => exact rfl); conv => whnf)
    | ((with_reducible refine cond_id ?_); (first | ((refine condKT rfl ?hy ?_); (case hy => first | assumption | exact notT (by assumption) | exact rfl)) | ((refine condKF rfl ?hy ?_); (case hy => first | assumption | exact notF (by assumption) | exact rfl)) | (revert hF; (with_reducible refine condF ?hx ?_ ?_); (case hx => exact rfl); all_goals (intro hc hF))))
    | ((with_reducible refine seq_nil ?_); (first | ((with_reducible refine hR _ ?_); clear R hR) | ((with_reducible refine hL _ ?_); clear L hL)))
    | ((with_reducible refine int_step ?_); conv => whnf)
    | ((with_reducible refine len_step ?_); conv => whnf)
    | with_reducible refine vc_block ?_
    | with_reducible refine vc_skip ?_
    | with_reducible refine vc_ret ?_
    | with_reducible refine vc_exit ?_
    | ((with_reducible refine vc_seqN [10] ?hx ?_); (case hx => exact rfl))
    | (with_reducible refine vc_region (fun R hR => ?_))
    | fail
    | (revert hF; (refine Cf29_c10 rfl rfl ?_ ?_); (intro hF); rotate_left; (intro out7 hF; unfold f29_c10 at hF); rotate_right)
    | exact Zf29_c10 hF ⟨_, rfl, rfl, rfl, rfl⟩ (by first | exact rfl | assumption | omega)
    | (revert hF; (refine Lf29_6 rfl ⟨_, rfl, rfl, rfl, rfl⟩ (by first | exact rfl | assumption | omega) ?_); intro n out7 v17 hF; unfold f29_6b at hF)
    | exact Mf29_6 hF ⟨_, rfl, rfl, rfl, rfl⟩ (by first | exact rfl | assumption | omega)
    | (revert hF; (with_reducible refine G65.lend ?hx ?_); (case hx => exact rfl); intro v hF; conv => whnf)
    | (revert hF; (with_reducible refine G68.lend ?hx ?_); (case hx => exact rfl); intro v hF; conv => whnf)
    | with_reducible refine k_seq_ret ?_
    | with_reducible refine k_seq_exit ?_
    | with_reducible refine k_blk ?_
    | with_reducible refine k_blk_ret ?_
    | with_reducible refine k_blk_here ?_
    | ((with_reducible refine k_blk_out ?hx ?_); (case hx => exact rfl))
    | with_reducible refine k_loop_ret ?_
    | with_reducible refine k_loop_exit ?_
    | ((with_reducible have hG := app_fact hF); clear hF; (first | ((refine app_row hG ?hn ?hs (fun q hF => ?_)); (case hn => first | exact rfl | assumption | omega); (case hs => exact rfl)) | ((refine app_nil (d := Fix.d) hG ?hs (fun q hF => ?_)); (case hs => exact rfl)) | ((refine app_gen (d := Fix.d) hG ?ho ?hn ?hs (fun q hF => ?_)); (case ho => exact rfl); (case hn => exact rfl); (case hs => exact rfl))); clear hG; conv => whnf)
    | ((refine row_all ?hn ?_); (case hn => first | exact rfl | (simp; done) | (simp; omega)); conv => whnf)
    | ((with_reducible refine le_step ?hn ?_); (case hn => first | exact rfl | assumption | omega); conv => whnf)
    | ((refine ⟨?hx, ?_⟩); (case hx => exact ⟨rfl, Nat.le_of_ble_eq_true rfl, rfl⟩); conv => whnf)
    | ((with_reducible refine ex_step ?_); conv => whnf)
    | ((with_reducible refine both_T ?hx ?_); (case hx => first | exact rfl | assumption | exact notT (by assumption)); conv => whnf)
    | ((with_reducible refine both_F ?hx ?_); (case hx => first | exact rfl | assumption | exact notF (by assumption)); conv => whnf)
    | (revert hF; (with_reducible refine ite_step ?_ ?_) <;> (intro hc hF; conv => whnf))
    | ((with_reducible refine vc_condT ?hx ?_); (case hx => exact rfl))
    | ((with_reducible refine vc_condF ?hx ?_); (case hx => exact rfl))
    | (show retD _ _ _ _ _ _; conv => whnf)
    | ((refine ⟨?hx, trivial⟩); (case hx => (cases hF; exact rfl)))
    | ((refine ⟨?hx, ?_⟩); (case hx => decide); conv => whnf)
    | ((with_reducible refine k_seq ?_))
    | (have hF : (none : Option _) = some _ := hF; cases hF))
end
end Go.Vc
namespace Go.Vc
open Go.Proofs
set_option linter.unusedVariables false
set_option linter.unnecessarySimpa false
set_option linter.unusedSimpArgs false
section
variable {c : Ctx} {p nid : Nat} {a b : Code} {st : St} {K : Ex → St → Prop}
/- f31: tusche/serial.Swaps -/
def f31_c13 (out9 : List Int) : Option ((List Int) × Int) :=
 some (out9, (0 : Int))
def Sf31_c13 : Ann := ⟨[9], [90009], [(.slot 9, 90009, 3, 1)], []⟩
def Vf31_c13 (out9 : List Int) : List SV := [.rs 90009 (List.length out9)]
def Bf31_c13 (out9 : List Int) : List Blk := [.row 3 1 (List.map iN out9)]
def Yf31_c13 (y : (List Int)) : List SV := Vf31_c13 y
def Xf31_c13 (y : (List Int)) : List Blk := Bf31_c13 y
def Jf31_c13 (r : (List Int) × Int) (y : (List Int)) : Prop := f31_c13 y = some r
def V2f31_c13 (out9 : List Int) (m0 : Nat) : List SV := [.rs 90009 m0]
def B2f31_c13 (out9 : List Int) (m0 : Nat) : List Blk := [.row 3 1 (List.map iN out9)]
theorem Cf31_c13 {r : (List Int) × Int} {g : _ → Option ((List Int) × Int)} (hn : Nat.beq (nid * 1000 + firstRegion b) 13 = true) (hz : Sf31_c13.ok p = true) (h : g f31_c13 = some r → vc c p nid a st (KHead Sf31_c13 Yf31_c13 Xf31_c13 (Jf31_c13 r) K)) (h2 : ∀ (out9 : List Int), f31_c13 out9 = some r → vc c p nid b (St.mk' Sf31_c13 (Vf31_c13 out9) (Bf31_c13 out9)) K) (hF : joinK f31_c13 g = some r) : vc c p nid (.seq a b) st K :=
  vc_cut Sf31_c13 Yf31_c13 Xf31_c13 (Jf31_c13 r) hz (h hF) fun y hy => h2 y hy
theorem Zf31_c13 {r : (List Int) × Int} {out9 : List Int} {m0 : Nat} (hF : f31_c13 out9 = some r) (h0 : AtH Sf31_c13 st (V2f31_c13 out9 m0) (B2f31_c13 out9 m0)) (em0 : m0 = List.length out9) : KHead Sf31_c13 Yf31_c13 Xf31_c13 (Jf31_c13 r) K .normal st := by
  subst em0; exact khead (I := (Jf31_c13 r)) (x := (out9)) hF h0
def f31_8b (r8 : (List Int) → Int → (List Int) → Option ((List Int) × Int)) (a0 : List (List Int)) (N : Nat) (b402_0 : List Int) (k0 : (List Int) → Option ((List Int) × Int)) (out9 : List Int) (v23 : Int) (b402_0' : List Int) : Option ((List Int) × Int) :=
 bif decide (v23 < (W ((List.length b402_0 : Int) - (1 : Int)))) then ((ix (b402_0') (W (v23 + (1 : Int)))).bind fun x2 =>
 (ix (b402_0') v23).bind fun x3 =>
 (ix (b402_0') v23).bind fun x4 =>
 (setx (b402_0') v23 x2).bind fun x5 =>
 (ix x5 (W (v23 + (1 : Int)))).bind fun x6 =>
 (setx x5 (W (v23 + (1 : Int))) x3).bind fun x7 =>
 (f59 N a0 (0 : Int) x7).bind fun x8 =>
 (ix x7 (W (v23 + (1 : Int)))).bind fun x9 =>
 (ix x7 v23).bind fun x10 =>
 (ix x7 v23).bind fun x11 =>
 (setx x7 v23 x9).bind fun x12 =>
 (ix x12 (W (v23 + (1 : Int)))).bind fun x13 =>
 (setx x12 (W (v23 + (1 : Int))) x10).bind fun x14 =>
 bif decide (x8 = (0 : Int)) then ((app 8 out9 [v23]).bind fun x15 =>
 r8 x15 (W (v23 + (1 : Int))) x14)
 else (r8 out9 (W (v23 + (1 : Int))) x14))
 else (k0 out9)
def f31_8 (a0 : List (List Int)) (N : Nat) (b402_0 : List Int) (k0 : (List Int) → Option ((List Int) × Int)) : Nat → (List Int) → Int → (List Int) → Option ((List Int) × Int)
  | 0, _, _, _ => none
  | n + 1, out9, v23, b402_0' => f31_8b (f31_8 a0 N b402_0 k0 n) a0 N b402_0 k0 out9 v23 b402_0'
def Sf31_8 : Ann := ⟨[8, 9, 22, 23], [0, 402, 90009, 90520], [(.slot 9, 90009, 3, 1), (.cell 402 0, 90520, 3, 1)], []⟩
def Vf31_8 (a0 : List (List Int)) (b402_0 : List Int) (out9 : List Int) (v23 : Int) (b402_0' : List Int) : List SV := [.fn 71 [] [.ptr 402 0, .ptr 0 0], .rs 90009 (List.length out9), .dat (iN (W ((List.length b402_0 : Int) - (1 : Int)))), .dat (iN v23)]
def Bf31_8 (a0 : List (List Int)) (b402_0 : List Int) (out9 : List Int) (v23 : Int) (b402_0' : List Int) : List Blk := [.box [.dat (sl_sl_iN a0)], .box [.rs 90520 (List.length (b402_0'))], .row 3 1 (List.map iN out9), .row 3 1 (List.map iN (b402_0'))]
def Yf31_8 (a0 : List (List Int)) (b402_0 : List Int) (y : Nat × (List Int) × Int × (List Int)) : List SV := Vf31_8 a0 b402_0 y.2.1 y.2.2.1 y.2.2.2
def Xf31_8 (a0 : List (List Int)) (b402_0 : List Int) (y : Nat × (List Int) × Int × (List Int)) : List Blk := Bf31_8 a0 b402_0 y.2.1 y.2.2.1 y.2.2.2
def Jf31_8 (a0 : List (List Int)) (N : Nat) (b402_0 : List Int) (k0 : (List Int) → Option ((List Int) × Int)) (r : (List Int) × Int) (y : Nat × (List Int) × Int × (List Int)) : Prop := f31_8 a0 N b402_0 k0 y.1 y.2.1 y.2.2.1 y.2.2.2 = some r
def V2f31_8 (a0 : List (List Int)) (b402_0 : List Int) (out9 : List Int) (v23 : Int) (b402_0' : List Int) (m0 : Nat) (m1 : Nat) : List SV := [.fn 71 [] [.ptr 402 0, .ptr 0 0], .rs 90009 m0, .dat (iN (W ((List.length b402_0 : Int) - (1 : Int)))), .dat (iN v23)]
def B2f31_8 (a0 : List (List Int)) (b402_0 : List Int) (out9 : List Int) (v23 : Int) (b402_0' : List Int) (m0 : Nat) (m1 : Nat) : List Blk := [.box [.dat (sl_sl_iN a0)], .box [.rs 90520 m1], .row 3 1 (List.map iN out9), .row 3 1 (List.map iN (b402_0'))]
theorem Lf31_8 {r : (List Int) × Int} {a0 : List (List Int)} {N : Nat} {b402_0 : List Int} {k0 : (List Int) → Option ((List Int) × Int)} {fu : Nat} {out9 : List Int} {v23 : Int} {b402_0' : List Int} {m0 : Nat} {m1 : Nat} (hz : Sf31_8.ok p = true) (h0 : AtH Sf31_8 st (V2f31_8 a0 b402_0 out9 v23 b402_0' m0 m1) (B2f31_8 a0 b402_0 out9 v23 b402_0' m0 m1)) (em0 : m0 = List.length out9) (em1 : m1 = List.length (b402_0')) (h : ∀ (n : Nat) (out9 : List Int) (v23 : Int) (b402_0' : List Int), f31_8b (f31_8 a0 N b402_0 k0 n) a0 N b402_0 k0 out9 v23 b402_0' = some r → vc c p nid a (St.mk' Sf31_8 (Vf31_8 a0 b402_0 out9 v23 b402_0') (Bf31_8 a0 b402_0 out9 v23 b402_0')) (Kloop Sf31_8 (Yf31_8 a0 b402_0) (Xf31_8 a0 b402_0) (Jf31_8 a0 N b402_0 k0 r) Prod.fst (n + 1, out9, v23, b402_0') K)) (hF : f31_8 a0 N b402_0 k0 fu out9 v23 b402_0' = some r) : vc c p nid (.loop a) st K := by
  subst em0 em1; refine vc_loop Sf31_8 (Yf31_8 a0 b402_0) (Xf31_8 a0 b402_0) (Jf31_8 a0 N b402_0 k0 r) Prod.fst hz (kheadL (x := (fu, out9, v23, b402_0')) hF h0) ?_
  rintro ⟨_ | n, out9, v23, b402_0'⟩ hI
  · cases hI
  · exact h n out9 v23 b402_0' hI
theorem Mf31_8 {r : (List Int) × Int} {a0 : List (List Int)} {N : Nat} {b402_0 : List Int} {k0 : (List Int) → Option ((List Int) × Int)} {n : Nat} {out9 : List Int} {v23 : Int} {b402_0' : List Int} {out9_ : List Int} {v23_ : Int} {b402_0'_ : List Int} {m0 : Nat} {m1 : Nat} (hF : f31_8 a0 N b402_0 k0 n out9 v23 b402_0' = some r) (h0 : AtH Sf31_8 st (V2f31_8 a0 b402_0 out9 v23 b402_0' m0 m1) (B2f31_8 a0 b402_0 out9 v23 b402_0' m0 m1)) (em0 : m0 = List.length out9) (em1 : m1 = List.length (b402_0')) : Kloop Sf31_8 (Yf31_8 a0 b402_0) (Xf31_8 a0 b402_0) (Jf31_8 a0 N b402_0 k0 r) Prod.fst (n + 1, out9_, v23_, b402_0'_) K .normal st := by
  subst em0 em1; exact kback (y := (n, out9, v23, b402_0')) hF (Nat.lt_succ_self n) h0
def f31_c5 (a0 : List (List Int)) (N : Nat) (b402_0 : List Int) : Option ((List Int) × Int) :=
 joinK f31_c13 fun k0 =>
 f31_8 a0 N b402_0 k0 N [] (0 : Int) b402_0
def Sf31_c5 : Ann := ⟨[2, 7], [0, 402, 90500], [(.cell 402 0, 90500, 3, 1)], []⟩
def Vf31_c5 (a0 : List (List Int)) (b402_0 : List Int) : List SV := [.ptr 0 0, .ptr 402 0]
def Bf31_c5 (a0 : List (List Int)) (b402_0 : List Int) : List Blk := [.box [.dat (sl_sl_iN a0)], .box [.rs 90500 (List.length b402_0)], .row 3 1 (List.map iN b402_0)]
def Yf31_c5 (a0 : List (List Int)) (y : (List Int)) : List SV := Vf31_c5 a0 y
def Xf31_c5 (a0 : List (List Int)) (y : (List Int)) : List Blk := Bf31_c5 a0 y
def Jf31_c5 (a0 : List (List Int)) (N : Nat) (r : (List Int) × Int) (y : (List Int)) : Prop := f31_c5 a0 N y = some r
def V2f31_c5 (a0 : List (List Int)) (b402_0 : List Int) (m0 : Nat) : List SV := [.ptr 0 0, .ptr 402 0]
def B2f31_c5 (a0 : List (List Int)) (b402_0 : List Int) (m0 : Nat) : List Blk := [.box [.dat (sl_sl_iN a0)], .box [.rs 90500 m0], .row 3 1 (List.map iN b402_0)]
theorem Cf31_c5 {r : (List Int) × Int} {a0 : List (List Int)} {N : Nat} {g : _ → Option ((List Int) × Int)} (hn : Nat.beq (nid * 1000 + firstRegion b) 5 = true) (hz : Sf31_c5.ok p = true) (h : g (f31_c5 a0 N) = some r → vc c p nid a st (KHead Sf31_c5 (Yf31_c5 a0) (Xf31_c5 a0) (Jf31_c5 a0 N r) K)) (h2 : ∀ (b402_0 : List Int), f31_c5 a0 N b402_0 = some r → vc c p nid b (St.mk' Sf31_c5 (Vf31_c5 a0 b402_0) (Bf31_c5 a0 b402_0)) K) (hF : joinK (f31_c5 a0 N) g = some r) : vc c p nid (.seq a b) st K :=
  vc_cut Sf31_c5 (Yf31_c5 a0) (Xf31_c5 a0) (Jf31_c5 a0 N r) hz (h hF) fun y hy => h2 y hy
theorem Zf31_c5 {r : (List Int) × Int} {a0 : List (List Int)} {N : Nat} {b402_0 : List Int} {m0 : Nat} (hF : f31_c5 a0 N b402_0 = some r) (h0 : AtH Sf31_c5 st (V2f31_c5 a0 b402_0 m0) (B2f31_c5 a0 b402_0 m0)) (em0 : m0 = List.length b402_0) : KHead Sf31_c5 (Yf31_c5 a0) (Xf31_c5 a0) (Jf31_c5 a0 N r) K .normal st := by
  subst em0; exact khead (I := (Jf31_c5 a0 N r)) (x := (b402_0)) hF h0
def f31 (N : Nat) (a0 : List (List Int)) (a1 : List Int) : Option ((List Int) × Int) :=
 (f68 N a0 a1).bind fun x1 =>
 bif decide (¬ x1 = (0 : Int)) then (some ([], x1))
 else (joinK (f31_c5 a0 N) fun k1 =>
 demB a1 (k1 [])
 ((app 8 [] a1).bind fun x16 =>
 k1 x16))
def G31 (ds : List D) (d : D) : Prop := ∃ (N : Nat) (a0 : List (List Int)) (a1 : List Int) (r : (List Int) × Int), ds = [sl_sl_iN a0, sl_iN a1] ∧ f31 N a0 a1 = some r ∧ d = .tup [sl_iN r.1, iN r.2]
theorem G31.step {N : Nat} {a0 : List (List Int)} {a1 : List Int} {ρ : Type} {A : ((List Int) × Int) → Option ρ} {q : ρ} {ds : List D} {K : D → Prop} (hd : ds = [sl_sl_iN a0, sl_iN a1]) (h : ∀ r, A r = some q → K (.tup [sl_iN r.1, iN r.2])) (hF : (f31 N a0 a1).bind A = some q) : ∃ d, G31 ds d ∧ K d := by
  obtain ⟨r, hr, hA⟩ := bind_some hF
  exact ⟨_, ⟨N, a0, a1, r, hd, hr, rfl⟩, h r hA⟩
set_option maxRecDepth 20000 in
set_option maxHeartbeats 4000000 in
theorem P31 : PureOK Try.prog 31 G31 := by
  refine pure_of_vc (c := mkCtx tyTree [(71, false, inlPg (mkCtx tyTree [(59, true, lendPg [[1], [0], [1]] G59)]) Try.f71), (70, false, inlPg (mkCtx tyTree []) Try.f70), (68, true, lendPg [[1], [1]] G68)]) rfl tyOK (ctx_eff (callable Try.func71 rfl rfl) (CallOK.inl rfl tyOK (ctx_lend (callable Try.func59 rfl rfl) P59 (ctx_nil)) Try.func71 (by kernel_rfl)) (ctx_eff (callable Try.func70 rfl rfl) (CallOK.inl rfl tyOK (ctx_nil) Try.func70 (by kernel_rfl)) (ctx_lend (callable Try.func68 rfl rfl) P68 (ctx_nil)))) [[1], [0]] 2 Try.func31 rfl rfl (by decide) (by kernel_rfl) ?_
  rintro ds d ⟨N, a0, a1, r, rfl, hF, rfl⟩ hok
  clear hok
  refine ⟨rfl, ?_⟩
  show vc _ _ _ _ ⟨[(0, .dat (sl_sl_iN a0)), (1, .dat (sl_iN a1))], []⟩ _
  unfold f31 at hF
  repeat' (first
    | ((with_reducible refine q0 _ _ ?_); clear Q q0 q1 q2)
    | ((with_reducible refine q1 _ _ _ _ ?_); clear Q q0 q1 q2)
    | ((with_reducible refine q2 _ _ _ ?_); clear Q q0 q1 q2)
    | ((with_reducible refine seq_op ?hx (fun Q q0 q1 q2 => ?_)); (case hx => exact rfl); conv => whnf)
    | ((with_reducible refine draw_op ?hx (fun Q q0 q1 q2 => ?_)); (case hx => exact rfl); conv => whnf)
    | ((with_reducible refine seq_op0 ?hx (fun Q q0 q1 q2 => ?_)); (case hx => exact rfl); conv => whnf)
    | ((with_reducible refine draw_op0 ?hx (fun Q q0 q1 q2 => ?_)); (case hx => exact rfl); conv => whnf)
    | ((with_reducible refine cond_id ?_); (first | ((refine condKT rfl ?hy ?_); (case hy => first | assumption | exact notT (by assumption) | exact rfl)) | ((refine condKF rfl ?hy ?_); (case hy => first | assumption | exact notF (by assumption) | exact rfl)) | (revert hF; (with_reducible refine condF ?hx ?_ ?_); (case hx => exact rfl); all_goals (intro hc hF))))
    | ((with_reducible refine seq_nil ?_); (first | ((with_reducible refine hR _ ?_); clear R hR) | ((with_reducible refine hL _ ?_); clear L hL)))
    | ((with_reducible refine draw_nil ?_); (with_reducible refine hR _ _ ?hx ?_); (case hx => kernel_rfl); (first | clear R hR | clear hR))
    | ((with_reducible refine int_step ?_); conv => whnf)
    | ((with_reducible refine len_step ?_); conv => whnf)
    | ((with_reducible refine idx2 (by assumption) ?_); conv => whnf)
    | ((with_reducible refine idx3 (by assumption) ?_); conv => whnf)
    | with_reducible refine vc_block ?_
    | with_reducible refine vc_skip ?_
    | with_reducible refine vc_ret ?_
    | with_reducible refine vc_exit ?_
    | ((with_reducible refine vc_seqN [13, 5] ?hx ?_); (case hx => exact rfl))
    | (with_reducible refine vc_region (fun R hR => ?_))
    | ((with_reducible refine vc_draw ?hx (fun R hR => ?_)); (case hx => exact rfl))
    | fail
    | (revert hF; (refine Cf31_c13 rfl rfl ?_ ?_); (intro hF); rotate_left; (intro out9 hF; unfold f31_c13 at hF); rotate_right)
    | exact Zf31_c13 hF ⟨_, rfl, rfl, rfl, rfl⟩ (by first | exact rfl | assumption | omega)
    | (revert hF; (refine Lf31_8 rfl ⟨_, rfl, rfl, rfl, rfl⟩ (by first | exact rfl | assumption | omega) (by first | exact rfl | assumption | omega) ?_); intro n out9 v23 b402_0' hF; unfold f31_8b at hF)
    | exact Mf31_8 hF ⟨_, rfl, rfl, rfl, rfl⟩ (by first | exact rfl | assumption | omega) (by first | exact rfl | assumption | omega)
    | (revert hF; (refine Cf31_c5 rfl rfl ?_ ?_); (intro hF); rotate_left; (intro b402_0 hF; unfold f31_c5 at hF); rotate_right)
    | exact Zf31_c5 hF ⟨_, rfl, rfl, rfl, rfl⟩ (by first | exact rfl | assumption | omega)
    | (revert hF; (with_reducible refine G59.lend ?hx ?_); (case hx => exact rfl); intro v hF; conv => whnf)
    | (revert hF; (with_reducible refine G68.lend ?hx ?_); (case hx => exact rfl); intro v hF; conv => whnf)
    | with_reducible refine k_seq_ret ?_
    | with_reducible refine k_seq_exit ?_
    | with_reducible refine k_blk ?_
    | with_reducible refine k_blk_ret ?_
    | with_reducible refine k_blk_here ?_
    | ((with_reducible refine k_blk_out ?hx ?_); (case hx => exact rfl))
    | with_reducible refine k_loop_ret ?_
    | with_reducible refine k_loop_exit ?_
    | (revert hF; (with_reducible refine idx1 ?hn ?_); (case hn => first | exact rfl | exact (List.length_map _) | assumption | omega | simp); intro x hx hF; conv => whnf)
    | ((with_reducible have hG := app_fact hF); clear hF; (first | ((refine app_row hG ?hn ?hs (fun q hF => ?_)); (case hn => first | exact rfl | assumption | omega); (case hs => exact rfl)) | ((refine app_nil (d := iN) hG ?hs (fun q hF => ?_)); (case hs => exact rfl)) | ((refine app_gen (d := iN) hG ?ho ?hn ?hs (fun q hF => ?_)); (case ho => exact rfl); (case hn => exact rfl); (case hs => exact rfl))); clear hG; conv => whnf)
    | ((refine row_all ?hn ?_); (case hn => first | exact rfl | (simp; done) | (simp; omega)); conv => whnf)
    | ((with_reducible refine le_step ?hn ?_); (case hn => first | exact rfl | assumption | omega); conv => whnf)
    | ((with_reducible have hG := setx_fact hF); clear hF; (refine setx_step hG ?hs (fun q hl hF => ?_)); (case hs => exact rfl); clear hG; conv => whnf)
    | (revert hF; (with_reducible refine dem_step ?_ ?_); (intro hl hF; conv => whnf); rotate_left; (intro hF; conv => whnf); rotate_right)
    | ((refine ⟨?hx, ?_⟩); (case hx => exact ⟨rfl, Nat.le_of_ble_eq_true rfl, rfl⟩); conv => whnf)
    | ((with_reducible refine ex_step ?_); conv => whnf)
    | ((with_reducible refine both_T ?hx ?_); (case hx => first | exact rfl | assumption | exact notT (by assumption)); conv => whnf)
    | ((with_reducible refine both_F ?hx ?_); (case hx => first | exact rfl | assumption | exact notF (by assumption)); conv => whnf)
    | (revert hF; (with_reducible refine ite_step ?_ ?_) <;> (intro hc hF; conv => whnf))
    | ((with_reducible refine vc_condT ?hx ?_); (case hx => exact rfl))
    | ((with_reducible refine vc_condF ?hx ?_); (case hx => exact rfl))
    | (show retD _ _ _ _ _ _; conv => whnf)
    | ((refine inl_step ?ha ?hb ?hc rfl ?_); (case ha => exact rfl); (case hb => omega); (case hc => exact Nat.le_of_ble_eq_true rfl))
    | (show Kinl _ _ _ _ _ _ _; conv => whnf)
    | ((with_reducible refine kinl_step ?ha ?hb ?_); (case ha => exact rfl); (case hb => exact rfl); conv => whnf)
    | ((refine ⟨?hx, trivial⟩); (case hx => (cases hF; exact rfl)))
    | ((refine ⟨?hx, ?_⟩); (case hx => decide); conv => whnf)
    | ((with_reducible refine k_seq ?_))
    | (have hF : (none : Option _) = some _ := hF; cases hF))
end
end Go.Vc
namespace Go.Vc
open Go.Proofs
set_option linter.unusedVariables false
set_option linter.unnecessarySimpa false
set_option linter.unusedSimpArgs false
section
variable {c : Ctx} {p nid : Nat} {a b : Code} {st : St} {K : Ex → St → Prop}
/- f33: tusche/tuschelaw01.fixes -/
def f33_c8 : Option (Bool) :=
 some (true)
def Sf33_c8 : Ann := ⟨[], [], [], []⟩
def Vf33_c8 : List SV := []
def Bf33_c8 : List Blk := []
def Yf33_c8 (y : Unit) : List SV := Vf33_c8
def Xf33_c8 (y : Unit) : List Blk := Bf33_c8
def Jf33_c8 (r : Bool) (y : Unit) : Prop := f33_c8 = some r
theorem Cf33_c8 {r : Bool} {g : _ → Option (Bool)} (hn : Nat.beq (nid * 1000 + firstRegion b) 8 = true) (hz : Sf33_c8.ok p = true) (h : g f33_c8 = some r → vc c p nid a st (KHead Sf33_c8 Yf33_c8 Xf33_c8 (Jf33_c8 r) K)) (h2 : ∀ (_ : Unit), f33_c8 = some r → vc c p nid b (St.mk' Sf33_c8 Vf33_c8 Bf33_c8) K) (hF : joinK f33_c8 g = some r) : vc c p nid (.seq a b) st K :=
  vc_cut Sf33_c8 Yf33_c8 Xf33_c8 (Jf33_c8 r) hz (h hF) fun y hy => h2 () hy
theorem Zf33_c8 {r : Bool} (hF : f33_c8 = some r) (h0 : AtH Sf33_c8 st Vf33_c8 Bf33_c8) : KHead Sf33_c8 Yf33_c8 Xf33_c8 (Jf33_c8 r) K .normal st := by
  exact khead (I := (Jf33_c8 r)) (x := ()) hF h0
def f33_4b (r4 : Int → Option (Bool)) (a0 : List Fix) (a1 : List Fix) (k0 : Option (Bool)) (i5 : Int) : Option (Bool) :=
 bif decide (i5 < (List.length a0 : Int)) then ((ix a0 i5).bind fun x1 =>
 (ix a1 i5).bind fun x2 =>
 bif !(decide (x1.At = x2.At) && (decide (x1.Digit = x2.Digit) && true)) then (some (false))
 else (r4 (W (i5 + (1 : Int)))))
 else k0
def f33_4 (a0 : List Fix) (a1 : List Fix) (k0 : Option (Bool)) : Nat → Int → Option (Bool)
  | 0, _ => none
  | n + 1, i5 => f33_4b (f33_4 a0 a1 k0 n) a0 a1 k0 i5
def Sf33_4 : Ann := ⟨[0, 1, 5], [], [], []⟩
def Vf33_4 (a0 : List Fix) (a1 : List Fix) (i5 : Int) : List SV := [.dat (sl_Fix a0), .dat (sl_Fix a1), .dat (iN i5)]
def Bf33_4 (a0 : List Fix) (a1 : List Fix) (i5 : Int) : List Blk := []
def Yf33_4 (a0 : List Fix) (a1 : List Fix) (y : Nat × Int) : List SV := Vf33_4 a0 a1 y.2
def Xf33_4 (a0 : List Fix) (a1 : List Fix) (y : Nat × Int) : List Blk := Bf33_4 a0 a1 y.2
def Jf33_4 (a0 : List Fix) (a1 : List Fix) (k0 : Option (Bool)) (r : Bool) (y : Nat × Int) : Prop := f33_4 a0 a1 k0 y.1 y.2 = some r
theorem Lf33_4 {r : Bool} {a0 : List Fix} {a1 : List Fix} {k0 : Option (Bool)} {fu : Nat} {i5 : Int} (hz : Sf33_4.ok p = true) (h0 : AtH Sf33_4 st (Vf33_4 a0 a1 i5) (Bf33_4 a0 a1 i5)) (h : ∀ (n : Nat) (i5 : Int), f33_4b (f33_4 a0 a1 k0 n) a0 a1 k0 i5 = some r → vc c p nid a (St.mk' Sf33_4 (Vf33_4 a0 a1 i5) (Bf33_4 a0 a1 i5)) (Kloop Sf33_4 (Yf33_4 a0 a1) (Xf33_4 a0 a1) (Jf33_4 a0 a1 k0 r) Prod.fst (n + 1, i5) K)) (hF : f33_4 a0 a1 k0 fu i5 = some r) : vc c p nid (.loop a) st K := by
  refine vc_loop Sf33_4 (Yf33_4 a0 a1) (Xf33_4 a0 a1) (Jf33_4 a0 a1 k0 r) Prod.fst hz (kheadL (x := (fu, i5)) hF h0) ?_
  rintro ⟨_ | n, i5⟩ hI
  · cases hI
  · exact h n i5 hI
theorem Mf33_4 {r : Bool} {a0 : List Fix} {a1 : List Fix} {k0 : Option (Bool)} {n : Nat} {i5 : Int} {i5_ : Int} (hF : f33_4 a0 a1 k0 n i5 = some r) (h0 : AtH Sf33_4 st (Vf33_4 a0 a1 i5) (Bf33_4 a0 a1 i5)) : Kloop Sf33_4 (Yf33_4 a0 a1) (Xf33_4 a0 a1) (Jf33_4 a0 a1 k0 r) Prod.fst (n + 1, i5_) K .normal st := by
  exact kback (y := (n, i5)) hF (Nat.lt_succ_self n) h0
def f33 (N : Nat) (a0 : List Fix) (a1 : List Fix) : Option (Bool) :=
 bif decide (¬ (List.length a0 : Int) = (List.length a1 : Int)) then (some (false))
 else (joinK f33_c8 fun k0 =>
 f33_4 a0 a1 k0 N (0 : Int))
def G33 (ds : List D) (d : D) : Prop := ∃ (N : Nat) (a0 : List Fix) (a1 : List Fix) (r : Bool), ds = [sl_Fix a0, sl_Fix a1] ∧ f33 N a0 a1 = some r ∧ d = bN r
theorem G33.lend {N : Nat} {a0 : List Fix} {a1 : List Fix} {ρ : Type} {A : Bool → Option ρ} {q : ρ} {ds : List D} {K : D → Prop} (hd : ds = [sl_Fix a0, sl_Fix a1]) (h : ∀ r, A r = some q → K (bN r)) (hF : (f33 N a0 a1).bind A = some q) : ∃ d, (G33 ds d ∧ d.flatB = true) ∧ K d := by
  obtain ⟨r, hr, hA⟩ := bind_some hF
  exact ⟨_, ⟨⟨N, a0, a1, r, hd, hr, rfl⟩, rfl⟩, h r hA⟩
theorem G33.step {N : Nat} {a0 : List Fix} {a1 : List Fix} {ρ : Type} {A : Bool → Option ρ} {q : ρ} {ds : List D} {K : D → Prop} (hd : ds = [sl_Fix a0, sl_Fix a1]) (h : ∀ r, A r = some q → K (bN r)) (hF : (f33 N a0 a1).bind A = some q) : ∃ d, G33 ds d ∧ K d := by
  obtain ⟨r, hr, hA⟩ := bind_some hF
  exact ⟨_, ⟨N, a0, a1, r, hd, hr, rfl⟩, h r hA⟩
set_option maxRecDepth 20000 in
set_option maxHeartbeats 4000000 in
theorem P33 : PureOK Try.prog 33 G33 := by
  refine pure_of_vc (c := mkCtx tyTree []) rfl tyOK (ctx_nil) [[0]] 2 Try.func33 rfl rfl (by decide) (by kernel_rfl) ?_
  rintro ds d ⟨N, a0, a1, r, rfl, hF, rfl⟩ hok
  clear hok
  refine ⟨rfl, ?_⟩
  show vc _ _ _ _ ⟨[(0, .dat (sl_Fix a0)), (1, .dat (sl_Fix a1))], []⟩ _
  unfold f33 at hF
  repeat' (first
    | ((with_reducible refine q0 _ _ ?_); clear Q q0 q1 q2)
    | ((with_reducible refine q1 _ _ _ _ ?_); clear Q q0 q1 q2)
    | ((with_reducible refine q2 _ _ _ ?_); clear Q q0 q1 q2)
    | ((with_reducible refine seq_op ?hx (fun Q q0 q1 q2 => ?_)); (case hx => exact rfl); conv => whnf)
    | ((with_reducible refine draw_op ?hx (fun Q q0 q1 q2 => ?_)); (case hx => exact rfl); conv => whnf)
    | ((with_reducible refine cond_id ?_); (first | ((refine condKT rfl ?hy ?_); (case hy => first | assumption | exact notT (by assumption) | exact rfl)) | ((refine condKF rfl ?hy ?_); (case hy => first | assumption | exact notF (by assumption) | exact rfl)) | (revert hF; (with_reducible refine condF ?hx ?_ ?_); (case hx => exact rfl); all_goals (intro hc hF))))
    | ((with_reducible refine seq_nil ?_); (first | ((with_reducible refine hR _ ?_); clear R hR) | ((with_reducible refine hL _ ?_); clear L hL)))
    | ((with_reducible refine draw_nil ?_); (with_reducible refine hR _ _ ?hx ?_); (case hx => kernel_rfl); (first | clear R hR | clear hR))
    | ((with_reducible refine int_step ?_); conv => whnf)
    | ((with_reducible refine len_step ?_); conv => whnf)
    | ((with_reducible refine idx2 (by assumption) ?_); conv => whnf)
    | ((with_reducible refine idx3 (by assumption) ?_); conv => whnf)
    | with_reducible refine vc_block ?_
    | with_reducible refine vc_skip ?_
    | with_reducible refine vc_ret ?_
    | with_reducible refine vc_exit ?_
    | ((with_reducible refine vc_seqN [8] ?hx ?_); (case hx => exact rfl))
    | (with_reducible refine vc_region (fun R hR => ?_))
    | ((with_reducible refine vc_draw ?hx (fun R hR => ?_)); (case hx => exact rfl))
    | fail
    | (revert hF; (refine Cf33_c8 rfl rfl ?_ ?_); (intro hF); rotate_left; (intro _ hF; unfold f33_c8 at hF); rotate_right)
    | exact Zf33_c8 hF ⟨_, rfl, rfl, rfl, rfl⟩
    | (revert hF; (refine Lf33_4 rfl ⟨_, rfl, rfl, rfl, rfl⟩ ?_); intro n i5 hF; unfold f33_4b at hF)
    | exact Mf33_4 hF ⟨_, rfl, rfl, rfl, rfl⟩
    | with_reducible refine k_seq_ret ?_
    | with_reducible refine k_seq_exit ?_
    | with_reducible refine k_blk ?_
    | with_reducible refine k_blk_ret ?_
    | with_reducible refine k_blk_here ?_
    | ((with_reducible refine k_blk_out ?hx ?_); (case hx => exact rfl))
    | with_reducible refine k_loop_ret ?_
    | with_reducible refine k_loop_exit ?_
    | (revert hF; (with_reducible refine idx1 ?hn ?_); (case hn => first | exact rfl | exact (List.length_map _) | assumption | omega | simp); intro x hx hF; conv => whnf)
    | ((refine row_all ?hn ?_); (case hn => first | exact rfl | (simp; done) | (simp; omega)); conv => whnf)
    | ((with_reducible refine le_step ?hn ?_); (case hn => first | exact rfl | assumption | omega); conv => whnf)
    | ((refine ⟨?hx, ?_⟩); (case hx => exact ⟨rfl, Nat.le_of_ble_eq_true rfl, rfl⟩); conv => whnf)
    | ((with_reducible refine ex_step ?_); conv => whnf)
    | ((with_reducible refine both_T ?hx ?_); (case hx => first | exact rfl | assumption | exact notT (by assumption)); conv => whnf)
    | ((with_reducible refine both_F ?hx ?_); (case hx => first | exact rfl | assumption | exact notF (by assumption)); conv => whnf)
    | (revert hF; (with_reducible refine ite_step ?_ ?_) <;> (intro hc hF; conv => whnf))
    | ((with_reducible refine vc_condT ?hx ?_); (case hx => exact rfl))
    | ((with_reducible refine vc_condF ?hx ?_); (case hx => exact rfl))
    | (show retD _ _ _ _ _ _; conv => whnf)
    | ((refine ⟨?hx, trivial⟩); (case hx => (cases hF; exact rfl)))
    | ((refine ⟨?hx, ?_⟩); (case hx => decide); conv => whnf)
    | ((with_reducible refine k_seq ?_))
    | (have hF : (none : Option _) = some _ := hF; cases hF))
end
end Go.Vc
namespace Go.Vc
open Go.Proofs
set_option linter.unusedVariables false
set_option linter.unnecessarySimpa false
set_option linter.unusedSimpArgs false
section
variable {c : Ctx} {p nid : Nat} {a b : Code} {st : St} {K : Ex → St → Prop}
/- f34: tusche/tuschelaw01.numbers -/
def f34_c8 : Option (Bool) :=
 some (true)
def Sf34_c8 : Ann := ⟨[], [], [], []⟩
def Vf34_c8 : List SV := []
def Bf34_c8 : List Blk := []
def Yf34_c8 (y : Unit) : List SV := Vf34_c8
def Xf34_c8 (y : Unit) : List Blk := Bf34_c8
def Jf34_c8 (r : Bool) (y : Unit) : Prop := f34_c8 = some r
theorem Cf34_c8 {r : Bool} {g : _ → Option (Bool)} (hn : Nat.beq (nid * 1000 + firstRegion b) 8 = true) (hz : Sf34_c8.ok p = true) (h : g f34_c8 = some r → vc c p nid a st (KHead Sf34_c8 Yf34_c8 Xf34_c8 (Jf34_c8 r) K)) (h2 : ∀ (_ : Unit), f34_c8 = some r → vc c p nid b (St.mk' Sf34_c8 Vf34_c8 Bf34_c8) K) (hF : joinK f34_c8 g = some r) : vc c p nid (.seq a b) st K :=
  vc_cut Sf34_c8 Yf34_c8 Xf34_c8 (Jf34_c8 r) hz (h hF) fun y hy => h2 () hy
theorem Zf34_c8 {r : Bool} (hF : f34_c8 = some r) (h0 : AtH Sf34_c8 st Vf34_c8 Bf34_c8) : KHead Sf34_c8 Yf34_c8 Xf34_c8 (Jf34_c8 r) K .normal st := by
  exact khead (I := (Jf34_c8 r)) (x := ()) hF h0
def f34_4b (r4 : Int → Option (Bool)) (a0 : List Int) (a1 : List Int) (k0 : Option (Bool)) (i5 : Int) : Option (Bool) :=
 bif decide (i5 < (List.length a0 : Int)) then ((ix a0 i5).bind fun x1 =>
 (ix a1 i5).bind fun x2 =>
 bif decide (¬ x1 = x2) then (some (false))
 else (r4 (W (i5 + (1 : Int)))))
 else k0
def f34_4 (a0 : List Int) (a1 : List Int) (k0 : Option (Bool)) : Nat → Int → Option (Bool)
  | 0, _ => none
  | n + 1, i5 => f34_4b (f34_4 a0 a1 k0 n) a0 a1 k0 i5
def Sf34_4 : Ann := ⟨[0, 1, 5], [], [], []⟩
def Vf34_4 (a0 : List Int) (a1 : List Int) (i5 : Int) : List SV := [.dat (sl_iN a0), .dat (sl_iN a1), .dat (iN i5)]
def Bf34_4 (a0 : List Int) (a1 : List Int) (i5 : Int) : List Blk := []
def Yf34_4 (a0 : List Int) (a1 : List Int) (y : Nat × Int) : List SV := Vf34_4 a0 a1 y.2
def Xf34_4 (a0 : List Int) (a1 : List Int) (y : Nat × Int) : List Blk := Bf34_4 a0 a1 y.2
def Jf34_4 (a0 : List Int) (a1 : List Int) (k0 : Option (Bool)) (r : Bool) (y : Nat × Int) : Prop := f34_4 a0 a1 k0 y.1 y.2 = some r
theorem Lf34_4 {r : Bool} {a0 : List Int} {a1 : List Int} {k0 : Option (Bool)} {fu : Nat} {i5 : Int} (hz : Sf34_4.ok p = true) (h0 : AtH Sf34_4 st (Vf34_4 a0 a1 i5) (Bf34_4 a0 a1 i5)) (h : ∀ (n : Nat) (i5 : Int), f34_4b (f34_4 a0 a1 k0 n) a0 a1 k0 i5 = some r → vc c p nid a (St.mk' Sf34_4 (Vf34_4 a0 a1 i5) (Bf34_4 a0 a1 i5)) (Kloop Sf34_4 (Yf34_4 a0 a1) (Xf34_4 a0 a1) (Jf34_4 a0 a1 k0 r) Prod.fst (n + 1, i5) K)) (hF : f34_4 a0 a1 k0 fu i5 = some r) : vc c p nid (.loop a) st K := by
  refine vc_loop Sf34_4 (Yf34_4 a0 a1) (Xf34_4 a0 a1) (Jf34_4 a0 a1 k0 r) Prod.fst hz (kheadL (x := (fu, i5)) hF h0) ?_
  rintro ⟨_ | n, i5⟩ hI
  · cases hI
  · exact h n i5 hI
theorem Mf34_4 {r : Bool} {a0 : List Int} {a1 : List Int} {k0 : Option (Bool)} {n : Nat} {i5 : Int} {i5_ : Int} (hF : f34_4 a0 a1 k0 n i5 = some r) (h0 : AtH Sf34_4 st (Vf34_4 a0 a1 i5) (Bf34_4 a0 a1 i5)) : Kloop Sf34_4 (Yf34_4 a0 a1) (Xf34_4 a0 a1) (Jf34_4 a0 a1 k0 r) Prod.fst (n + 1, i5_) K .normal st := by
  exact kback (y := (n, i5)) hF (Nat.lt_succ_self n) h0
def f34 (N : Nat) (a0 : List Int) (a1 : List Int) : Option (Bool) :=
 bif decide (¬ (List.length a0 : Int) = (List.length a1 : Int)) then (some (false))
 else (joinK f34_c8 fun k0 =>
 f34_4 a0 a1 k0 N (0 : Int))
def G34 (ds : List D) (d : D) : Prop := ∃ (N : Nat) (a0 : List Int) (a1 : List Int) (r : Bool), ds = [sl_iN a0, sl_iN a1] ∧ f34 N a0 a1 = some r ∧ d = bN r
theorem G34.lend {N : Nat} {a0 : List Int} {a1 : List Int} {ρ : Type} {A : Bool → Option ρ} {q : ρ} {ds : List D} {K : D → Prop} (hd : ds = [sl_iN a0, sl_iN a1]) (h : ∀ r, A r = some q → K (bN r)) (hF : (f34 N a0 a1).bind A = some q) : ∃ d, (G34 ds d ∧ d.flatB = true) ∧ K d := by
  obtain ⟨r, hr, hA⟩ := bind_some hF
  exact ⟨_, ⟨⟨N, a0, a1, r, hd, hr, rfl⟩, rfl⟩, h r hA⟩
theorem G34.step {N : Nat} {a0 : List Int} {a1 : List Int} {ρ : Type} {A : Bool → Option ρ} {q : ρ} {ds : List D} {K : D → Prop} (hd : ds = [sl_iN a0, sl_iN a1]) (h : ∀ r, A r = some q → K (bN r)) (hF : (f34 N a0 a1).bind A = some q) : ∃ d, G34 ds d ∧ K d := by
  obtain ⟨r, hr, hA⟩ := bind_some hF
  exact ⟨_, ⟨N, a0, a1, r, hd, hr, rfl⟩, h r hA⟩
set_option maxRecDepth 20000 in
set_option maxHeartbeats 4000000 in
theorem P34 : PureOK Try.prog 34 G34 := by
  refine pure_of_vc (c := mkCtx tyTree []) rfl tyOK (ctx_nil) [[0]] 2 Try.func34 rfl rfl (by decide) (by kernel_rfl) ?_
  rintro ds d ⟨N, a0, a1, r, rfl, hF, rfl⟩ hok
  clear hok
  refine ⟨rfl, ?_⟩
  show vc _ _ _ _ ⟨[(0, .dat (sl_iN a0)), (1, .dat (sl_iN a1))], []⟩ _
  unfold f34 at hF
  repeat' (first
    | ((with_reducible refine q0 _ _ ?_); clear Q q0 q1 q2)
    | ((with_reducible refine q1 _ _ _ _ ?_); clear Q q0 q1 q2)
    | ((with_reducible refine q2 _ _ _ ?_); clear Q q0 q1 q2)
    | ((with_reducible refine seq_op ?hx (fun Q q0 q1 q2 => ?_)); (case hx => exact rfl); conv => whnf)
    | ((with_reducible refine draw_op ?hx (fun Q q0 q1 q2 => ?_)); (case hx => exact rfl); conv => whnf)
    | ((with_reducible refine cond_id ?_); (first | ((refine condKT rfl ?hy ?_); (case hy => first | assumption | exact notT (by assumption) | exact rfl)) | ((refine condKF rfl ?hy ?_); (case hy => first | assumption | exact notF (by assumption) | exact rfl)) | (revert hF; (with_reducible refine condF ?hx ?_ ?_); (case hx => exact rfl); all_goals (intro hc hF))))
    | ((with_reducible refine seq_nil ?_); (first | ((with_reducible refine hR _ ?_); clear R hR) | ((with_reducible refine hL _ ?_); clear L hL)))
    | ((with_reducible refine draw_nil ?_); (with_reducible refine hR _ _ ?hx ?_); (case hx => kernel_rfl); (first | clear R hR | clear hR))
    | ((with_reducible refine int_step ?_); conv => whnf)
    | ((with_reducible refine len_step ?_); conv => whnf)
    | ((with_reducible refine idx2 (by assumption) ?_); conv => whnf)
    | ((with_reducible refine idx3 (by assumption) ?_); conv => whnf)
    | with_reducible refine vc_block ?_
    | with_reducible refine vc_skip ?_
    | with_reducible refine vc_ret ?_
    | with_reducible refine vc_exit ?_
    | ((with_reducible refine vc_seqN [8] ?hx ?_); (case hx => exact rfl))
    | (with_reducible refine vc_region (fun R hR => ?_))
    | ((with_reducible refine vc_draw ?hx (fun R hR => ?_)); (case hx => exact rfl))
    | fail
    | (revert hF; (refine Cf34_c8 rfl rfl ?_ ?_); (intro hF); rotate_left; (intro _ hF; unfold f34_c8 at hF); rotate_right)
    | exact Zf34_c8 hF ⟨_, rfl, rfl, rfl, rfl⟩
    | (revert hF; (refine Lf34_4 rfl ⟨_, rfl, rfl, rfl, rfl⟩ ?_); intro n i5 hF; unfold f34_4b at hF)
    | exact Mf34_4 hF ⟨_, rfl, rfl, rfl, rfl⟩
    | with_reducible refine k_seq_ret ?_
    | with_reducible refine k_seq_exit ?_
    | with_reducible refine k_blk ?_
    | with_reducible refine k_blk_ret ?_
    | with_reducible refine k_blk_here ?_
    | ((with_reducible refine k_blk_out ?hx ?_); (case hx => exact rfl))
    | with_reducible refine k_loop_ret ?_
    | with_reducible refine k_loop_exit ?_
    | (revert hF; (with_reducible refine idx1 ?hn ?_); (case hn => first | exact rfl | exact (List.length_map _) | assumption | omega | simp); intro x hx hF; conv => whnf)
    | ((refine row_all ?hn ?_); (case hn => first | exact rfl | (simp; done) | (simp; omega)); conv => whnf)
    | ((with_reducible refine le_step ?hn ?_); (case hn => first | exact rfl | assumption | omega); conv => whnf)
    | ((refine ⟨?hx, ?_⟩); (case hx => exact ⟨rfl, Nat.le_of_ble_eq_true rfl, rfl⟩); conv => whnf)
    | ((with_reducible refine ex_step ?_); conv => whnf)
    | ((with_reducible refine both_T ?hx ?_); (case hx => first | exact rfl | assumption | exact notT (by assumption)); conv => whnf)
    | ((with_reducible refine both_F ?hx ?_); (case hx => first | exact rfl | assumption | exact notF (by assumption)); conv => whnf)
    | (revert hF; (with_reducible refine ite_step ?_ ?_) <;> (intro hc hF; conv => whnf))
    | ((with_reducible refine vc_condT ?hx ?_); (case hx => exact rfl))
    | ((with_reducible refine vc_condF ?hx ?_); (case hx => exact rfl))
    | (show retD _ _ _ _ _ _; conv => whnf)
    | ((refine ⟨?hx, trivial⟩); (case hx => (cases hF; exact rfl)))
    | ((refine ⟨?hx, ?_⟩); (case hx => decide); conv => whnf)
    | ((with_reducible refine k_seq ?_))
    | (have hF : (none : Option _) = some _ := hF; cases hF))
end
end Go.Vc
namespace Go.Vc
open Go.Proofs
set_option linter.unusedVariables false
set_option linter.unnecessarySimpa false
set_option linter.unusedSimpArgs false
section
variable {c : Ctx} {p nid : Nat} {a b : Code} {st : St} {K : Ex → St → Prop}
/- f35: tusche/serial.Code -/
def f35_c15 (a0 : List (List Int)) (N : Nat) (number2 : Int) (out9 : List Int) : Option ((List Int) × Int) :=
 bif decide ((0 : Int) < number2) then (some ([], (4 : Int)))
 else ((f23 N a0 out9).bind fun x4 =>
 (app 8 out9 [x4.1]).bind fun x5 =>
 some (x5, x4.2))
def Sf35_c15 : Ann := ⟨[0, 2, 9], [90009], [(.slot 9, 90009, 3, 1)], []⟩
def Vf35_c15 (a0 : List (List Int)) (number2 : Int) (out9 : List Int) : List SV := [.dat (sl_sl_iN a0), .dat (iN number2), .rs 90009 (List.length out9)]
def Bf35_c15 (a0 : List (List Int)) (number2 : Int) (out9 : List Int) : List Blk := [.row 3 1 (List.map iN out9)]
def Yf35_c15 (a0 : List (List Int)) (y : Int × (List Int)) : List SV := Vf35_c15 a0 y.1 y.2
def Xf35_c15 (a0 : List (List Int)) (y : Int × (List Int)) : List Blk := Bf35_c15 a0 y.1 y.2
def Jf35_c15 (a0 : List (List Int)) (N : Nat) (r : (List Int) × Int) (y : Int × (List Int)) : Prop := f35_c15 a0 N y.1 y.2 = some r
def V2f35_c15 (a0 : List (List Int)) (number2 : Int) (out9 : List Int) (m0 : Nat) : List SV := [.dat (sl_sl_iN a0), .dat (iN number2), .rs 90009 m0]
def B2f35_c15 (a0 : List (List Int)) (number2 : Int) (out9 : List Int) (m0 : Nat) : List Blk := [.row 3 1 (List.map iN out9)]
theorem Cf35_c15 {r : (List Int) × Int} {a0 : List (List Int)} {N : Nat} {g : _ → Option ((List Int) × Int)} (hn : Nat.beq (nid * 1000 + firstRegion b) 15 = true) (hz : Sf35_c15.ok p = true) (h : g (f35_c15 a0 N) = some r → vc c p nid a st (KHead Sf35_c15 (Yf35_c15 a0) (Xf35_c15 a0) (Jf35_c15 a0 N r) K)) (h2 : ∀ (number2 : Int) (out9 : List Int), f35_c15 a0 N number2 out9 = some r → vc c p nid b (St.mk' Sf35_c15 (Vf35_c15 a0 number2 out9) (Bf35_c15 a0 number2 out9)) K) (hF : joinK (f35_c15 a0 N) g = some r) : vc c p nid (.seq a b) st K :=
  vc_cut Sf35_c15 (Yf35_c15 a0) (Xf35_c15 a0) (Jf35_c15 a0 N r) hz (h hF) fun y hy => h2 y.1 y.2 hy
theorem Zf35_c15 {r : (List Int) × Int} {a0 : List (List Int)} {N : Nat} {number2 : Int} {out9 : List Int} {m0 : Nat} (hF : f35_c15 a0 N number2 out9 = some r) (h0 : AtH Sf35_c15 st (V2f35_c15 a0 number2 out9 m0) (B2f35_c15 a0 number2 out9 m0)) (em0 : m0 = List.length out9) : KHead Sf35_c15 (Yf35_c15 a0) (Xf35_c15 a0) (Jf35_c15 a0 N r) K .normal st := by
  subst em0; exact khead (I := (Jf35_c15 a0 N r)) (x := (number2, out9)) hF h0
def f35_10b (r10 : Int → (List Int) → Int → Option ((List Int) × Int)) (a0 : List (List Int)) (x3 : List Int) (k0 : Int → (List Int) → Option ((List Int) × Int)) (number2 : Int) (out9 : List Int) (v30 : Int) : Option ((List Int) × Int) :=
 bif decide (v30 < (List.length x3 : Int)) then ((chk (decide ((List.length a0 : Int) ≠ 0))).bind fun _ =>
 (ix out9 (W ((W ((List.length out9 : Int) - (1 : Int))) - v30))).bind fun x6 =>
 (setx out9 (W ((W ((List.length out9 : Int) - (1 : Int))) - v30)) (Int.tmod number2 (List.length a0 : Int))).bind fun x7 =>
 (chk (decide ((List.length a0 : Int) ≠ 0))).bind fun _ =>
 r10 (W (Int.tdiv number2 (List.length a0 : Int))) x7 (W (v30 + (1 : Int))))
 else (k0 number2 out9)
def f35_10 (a0 : List (List Int)) (x3 : List Int) (k0 : Int → (List Int) → Option ((List Int) × Int)) : Nat → Int → (List Int) → Int → Option ((List Int) × Int)
  | 0, _, _, _ => none
  | n + 1, number2, out9, v30 => f35_10b (f35_10 a0 x3 k0 n) a0 x3 k0 number2 out9 v30
def Sf35_10 : Ann := ⟨[0, 2, 9, 29, 30], [90009], [(.slot 9, 90009, 3, 1)], []⟩
def Vf35_10 (a0 : List (List Int)) (x3 : List Int) (number2 : Int) (out9 : List Int) (v30 : Int) : List SV := [.dat (sl_sl_iN a0), .dat (iN number2), .rs 90009 (List.length out9), .dat (iN (List.length x3 : Int)), .dat (iN v30)]
def Bf35_10 (a0 : List (List Int)) (x3 : List Int) (number2 : Int) (out9 : List Int) (v30 : Int) : List Blk := [.row 3 1 (List.map iN out9)]
def Yf35_10 (a0 : List (List Int)) (x3 : List Int) (y : Nat × Int × (List Int) × Int) : List SV := Vf35_10 a0 x3 y.2.1 y.2.2.1 y.2.2.2
def Xf35_10 (a0 : List (List Int)) (x3 : List Int) (y : Nat × Int × (List Int) × Int) : List Blk := Bf35_10 a0 x3 y.2.1 y.2.2.1 y.2.2.2
def Jf35_10 (a0 : List (List Int)) (x3 : List Int) (k0 : Int → (List Int) → Option ((List Int) × Int)) (r : (List Int) × Int) (y : Nat × Int × (List Int) × Int) : Prop := f35_10 a0 x3 k0 y.1 y.2.1 y.2.2.1 y.2.2.2 = some r
def V2f35_10 (a0 : List (List Int)) (x3 : List Int) (number2 : Int) (out9 : List Int) (v30 : Int) (m0 : Nat) : List SV := [.dat (sl_sl_iN a0), .dat (iN number2), .rs 90009 m0, .dat (iN (List.length x3 : Int)), .dat (iN v30)]
def B2f35_10 (a0 : List (List Int)) (x3 : List Int) (number2 : Int) (out9 : List Int) (v30 : Int) (m0 : Nat) : List Blk := [.row 3 1 (List.map iN out9)]
theorem Lf35_10 {r : (List Int) × Int} {a0 : List (List Int)} {x3 : List Int} {k0 : Int → (List Int) → Option ((List Int) × Int)} {fu : Nat} {number2 : Int} {out9 : List Int} {v30 : Int} {m0 : Nat} (hz : Sf35_10.ok p = true) (h0 : AtH Sf35_10 st (V2f35_10 a0 x3 number2 out9 v30 m0) (B2f35_10 a0 x3 number2 out9 v30 m0)) (em0 : m0 = List.length out9) (h : ∀ (n : Nat) (number2 : Int) (out9 : List Int) (v30 : Int), f35_10b (f35_10 a0 x3 k0 n) a0 x3 k0 number2 out9 v30 = some r → vc c p nid a (St.mk' Sf35_10 (Vf35_10 a0 x3 number2 out9 v30) (Bf35_10 a0 x3 number2 out9 v30)) (Kloop Sf35_10 (Yf35_10 a0 x3) (Xf35_10 a0 x3) (Jf35_10 a0 x3 k0 r) Prod.fst (n + 1, number2, out9, v30) K)) (hF : f35_10 a0 x3 k0 fu number2 out9 v30 = some r) : vc c p nid (.loop a) st K := by
  subst em0; refine vc_loop Sf35_10 (Yf35_10 a0 x3) (Xf35_10 a0 x3) (Jf35_10 a0 x3 k0 r) Prod.fst hz (kheadL (x := (fu, number2, out9, v30)) hF h0) ?_
  rintro ⟨_ | n, number2, out9, v30⟩ hI
  · cases hI
  · exact h n number2 out9 v30 hI
theorem Mf35_10 {r : (List Int) × Int} {a0 : List (List Int)} {x3 : List Int} {k0 : Int → (List Int) → Option ((List Int) × Int)} {n : Nat} {number2 : Int} {out9 : List Int} {v30 : Int} {number2_ : Int} {out9_ : List Int} {v30_ : Int} {m0 : Nat} (hF : f35_10 a0 x3 k0 n number2 out9 v30 = some r) (h0 : AtH Sf35_10 st (V2f35_10 a0 x3 number2 out9 v30 m0) (B2f35_10 a0 x3 number2 out9 v30 m0)) (em0 : m0 = List.length out9) : Kloop Sf35_10 (Yf35_10 a0 x3) (Xf35_10 a0 x3) (Jf35_10 a0 x3 k0 r) Prod.fst (n + 1, number2_, out9_, v30_) K .normal st := by
  subst em0; exact kback (y := (n, number2, out9, v30)) hF (Nat.lt_succ_self n) h0
def f35 (N : Nat) (a0 : List (List Int)) (a1 : Int) (a2 : Int) : Option ((List Int) × Int) :=
 (f49 N a0).bind fun x1 =>
 bif decide (¬ x1 = (0 : Int)) then (some ([], x1))
 else ((f64 N (2 : Int) a1 (12 : Int)).bind fun x2 =>
 bif !x2 then (some ([], (3 : Int)))
 else (bif decide (a2 < (0 : Int)) then (some ([], (4 : Int)))
 else ((mkS 8 (0 : Int) (W (a1 - (1 : Int))) (W (a1 - (1 : Int)))).bind fun x3 =>
 joinK (f35_c15 a0 N) fun k0 =>
 f35_10 a0 x3 k0 N a2 x3 (0 : Int))))
def G35 (ds : List D) (d : D) : Prop := ∃ (N : Nat) (a0 : List (List Int)) (a1 : Int) (a2 : Int) (r : (List Int) × Int), ds = [sl_sl_iN a0, iN a1, iN a2] ∧ f35 N a0 a1 a2 = some r ∧ d = .tup [sl_iN r.1, iN r.2]
theorem G35.step {N : Nat} {a0 : List (List Int)} {a1 : Int} {a2 : Int} {ρ : Type} {A : ((List Int) × Int) → Option ρ} {q : ρ} {ds : List D} {K : D → Prop} (hd : ds = [sl_sl_iN a0, iN a1, iN a2]) (h : ∀ r, A r = some q → K (.tup [sl_iN r.1, iN r.2])) (hF : (f35 N a0 a1 a2).bind A = some q) : ∃ d, G35 ds d ∧ K d := by
  obtain ⟨r, hr, hA⟩ := bind_some hF
  exact ⟨_, ⟨N, a0, a1, a2, r, hd, hr, rfl⟩, h r hA⟩
set_option maxRecDepth 20000 in
set_option maxHeartbeats 4000000 in
theorem P35 : PureOK Try.prog 35 G35 := by
  refine pure_of_vc (c := mkCtx tyTree [(64, true, lendPg [[0], [0], [0]] G64), (49, true, lendPg [[1]] G49), (23, true, lendPg [[1], [1]] G23)]) rfl tyOK (ctx_lend (callable Try.func64 rfl rfl) P64 (ctx_lend (callable Try.func49 rfl rfl) P49 (ctx_lend (callable Try.func23 rfl rfl) P23 (ctx_nil)))) [[1], [0]] 3 Try.func35 rfl rfl (by decide) (by kernel_rfl) ?_
  rintro ds d ⟨N, a0, a1, a2, r, rfl, hF, rfl⟩ hok
  clear hok
  refine ⟨rfl, ?_⟩
  show vc _ _ _ _ ⟨[(0, .dat (sl_sl_iN a0)), (1, .dat (iN a1)), (2, .dat (iN a2))], []⟩ _
  unfold f35 at hF
  repeat' (first
    | ((with_reducible refine q0 _ _ ?_); clear Q q0 q1 q2)
    | ((with_reducible refine q1 _ _ _ _ ?_); clear Q q0 q1 q2)
    | ((with_reducible refine q2 _ _ _ ?_); clear Q q0 q1 q2)
    | ((with_reducible refine seq_op ?hx (fun Q q0 q1 q2 => ?_)); (case hx => exact rfl); conv => whnf)
    | ((with_reducible refine seq_op0 ?hx (fun Q q0 q1 q2 => ?_)); (case hx => exact rfl); conv => whnf)
    | ((with_reducible refine cond_id ?_); (first | ((refine condKT rfl ?hy ?_); (case hy => first | assumption | exact notT (by assumption) | exact rfl)) | ((refine condKF rfl ?hy ?_); (case hy => first | assumption | exact notF (by assumption) | exact rfl)) | (revert hF; (with_reducible refine condF ?hx ?_ ?_); (case hx => exact rfl); all_goals (intro hc hF))))
    | ((with_reducible refine seq_nil ?_); (first | ((with_reducible refine hR _ ?_); clear R hR) | ((with_reducible refine hL _ ?_); clear L hL)))
    | ((with_reducible refine int_step ?_); conv => whnf)
    | ((with_reducible refine len_step ?_); conv => whnf)
    | ((with_reducible refine idx2 (by assumption) ?_); conv => whnf)
    | ((with_reducible refine idx3 (by assumption) ?_); conv => whnf)
    | with_reducible refine vc_block ?_
    | with_reducible refine vc_skip ?_
    | with_reducible refine vc_ret ?_
    | with_reducible refine vc_exit ?_
    | ((with_reducible refine vc_seqN [15] ?hx ?_); (case hx => exact rfl))
    | (with_reducible refine vc_region (fun R hR => ?_))
    | fail
    | (revert hF; (refine Cf35_c15 rfl rfl ?_ ?_); (intro hF); rotate_left; (intro number2 out9 hF; unfold f35_c15 at hF); rotate_right)
    | exact Zf35_c15 hF ⟨_, rfl, rfl, rfl, rfl⟩ (by first | exact rfl | assumption | omega)
    | (revert hF; (refine Lf35_10 rfl ⟨_, rfl, rfl, rfl, rfl⟩ (by first | exact rfl | assumption | omega) ?_); intro n number2 out9 v30 hF; unfold f35_10b at hF)
    | exact Mf35_10 hF ⟨_, rfl, rfl, rfl, rfl⟩ (by first | exact rfl | assumption | omega)
    | (revert hF; (with_reducible refine G23.lend ?hx ?_); (case hx => exact rfl); intro v hF; conv => whnf)
    | (revert hF; (with_reducible refine G49.lend ?hx ?_); (case hx => exact rfl); intro v hF; conv => whnf)
    | (revert hF; (with_reducible refine G64.lend ?hx ?_); (case hx => exact rfl); intro v hF; conv => whnf)
    | (revert hF; (refine mkS_row (d := iN) ?hz ?_); (case hz => exact rfl); intro x hF; conv => whnf)
    | with_reducible refine k_seq_ret ?_
    | with_reducible refine k_seq_exit ?_
    | with_reducible refine k_blk ?_
    | with_reducible refine k_blk_ret ?_
    | with_reducible refine k_blk_here ?_
    | ((with_reducible refine k_blk_out ?hx ?_); (case hx => exact rfl))
    | with_reducible refine k_loop_ret ?_
    | with_reducible refine k_loop_exit ?_
    | (revert hF; (with_reducible refine idx1 ?hn ?_); (case hn => first | exact rfl | exact (List.length_map _) | assumption | omega | simp); intro x hx hF; conv => whnf)
    | ((with_reducible have hG := app_fact hF); clear hF; (first | ((refine app_row hG ?hn ?hs (fun q hF => ?_)); (case hn => first | exact rfl | assumption | omega); (case hs => exact rfl)) | ((refine app_nil (d := iN) hG ?hs (fun q hF => ?_)); (case hs => exact rfl)) | ((refine app_gen (d := iN) hG ?ho ?hn ?hs (fun q hF => ?_)); (case ho => exact rfl); (case hn => exact rfl); (case hs => exact rfl))); clear hG; conv => whnf)
    | ((refine row_all ?hn ?_); (case hn => first | exact rfl | (simp; done) | (simp; omega)); conv => whnf)
    | ((with_reducible refine le_step ?hn ?_); (case hn => first | exact rfl | assumption | omega); conv => whnf)
    | ((with_reducible have hG := setx_fact hF); clear hF; (refine setx_step hG ?hs (fun q hl hF => ?_)); (case hs => exact rfl); clear hG; conv => whnf)
    | ((refine ⟨?hx, ?_⟩); (case hx => exact ⟨rfl, Nat.le_of_ble_eq_true rfl, rfl⟩); conv => whnf)
    | ((with_reducible refine ex_step ?_); conv => whnf)
    | ((with_reducible have hG := chk_fact hF); clear hF; (refine ⟨?hx, ?_⟩); (case hx => (first | exact of_decide_eq_true hG.1 | exact hG.1)); have hF := hG.2; clear hG; conv => whnf)
    | ((with_reducible refine both_T ?hx ?_); (case hx => first | exact rfl | assumption | exact notT (by assumption)); conv => whnf)
    | ((with_reducible refine both_F ?hx ?_); (case hx => first | exact rfl | assumption | exact notF (by assumption)); conv => whnf)
    | (revert hF; (with_reducible refine ite_step ?_ ?_) <;> (intro hc hF; conv => whnf))
    | ((with_reducible refine vc_condT ?hx ?_); (case hx => exact rfl))
    | ((with_reducible refine vc_condF ?hx ?_); (case hx => exact rfl))
    | (show retD _ _ _ _ _ _; conv => whnf)
    | ((refine ⟨?hx, trivial⟩); (case hx => (cases hF; exact rfl)))
    | ((refine ⟨?hx, ?_⟩); (case hx => decide); conv => whnf)
    | ((with_reducible refine k_seq ?_))
    | (have hF : (none : Option _) = some _ := hF; cases hF))
end
end Go.Vc
namespace Go.Vc
open Go.Proofs
set_option linter.unusedVariables false
set_option linter.unnecessarySimpa false
set_option linter.unusedSimpArgs false
section
variable {c : Ctx} {p nid : Nat} {a b : Code} {st : St} {K : Ex → St → Prop}
/- f37: tusche/serial.Number -/
def f37_i406_c6 (a0 : List (List Int)) (start0 : Int) : Option (Int × Int) :=
 some (start0, (0 : Int))
def Sf37_i406_c6 : Ann := ⟨[0], [0], [], []⟩
def Vf37_i406_c6 (a0 : List (List Int)) (start0 : Int) : List SV := [.dat (iN start0)]
def Bf37_i406_c6 (a0 : List (List Int)) (start0 : Int) : List Blk := [.box [.dat (sl_sl_iN a0)]]
def Yf37_i406_c6 (a0 : List (List Int)) (y : Int) : List SV := Vf37_i406_c6 a0 y
def Xf37_i406_c6 (a0 : List (List Int)) (y : Int) : List Blk := Bf37_i406_c6 a0 y
def Jf37_i406_c6 (a0 : List (List Int)) (r : Int × Int) (y : Int) : Prop := f37_i406_c6 a0 y = some r
theorem Cf37_i406_c6 {r : Int × Int} {a0 : List (List Int)} {g : _ → Option (Int × Int)} (hn : Nat.beq (nid * 1000 + firstRegion b) 407000000006 = true) (hz : Sf37_i406_c6.ok p = true) (h : g (f37_i406_c6 a0) = some r → vc c p nid a st (KHead Sf37_i406_c6 (Yf37_i406_c6 a0) (Xf37_i406_c6 a0) (Jf37_i406_c6 a0 r) K)) (h2 : ∀ (start0 : Int), f37_i406_c6 a0 start0 = some r → vc c p nid b (St.mk' Sf37_i406_c6 (Vf37_i406_c6 a0 start0) (Bf37_i406_c6 a0 start0)) K) (hF : joinK (f37_i406_c6 a0) g = some r) : vc c p nid (.seq a b) st K :=
  vc_cut Sf37_i406_c6 (Yf37_i406_c6 a0) (Xf37_i406_c6 a0) (Jf37_i406_c6 a0 r) hz (h hF) fun y hy => h2 y hy
theorem Zf37_i406_c6 {r : Int × Int} {a0 : List (List Int)} {start0 : Int} (hF : f37_i406_c6 a0 start0 = some r) (h0 : AtH Sf37_i406_c6 st (Vf37_i406_c6 a0 start0) (Bf37_i406_c6 a0 start0)) : KHead Sf37_i406_c6 (Yf37_i406_c6 a0) (Xf37_i406_c6 a0) (Jf37_i406_c6 a0 r) K .normal st := by
  exact khead (I := (Jf37_i406_c6 a0 r)) (x := (start0)) hF h0
def f37_i406_2b (r2 : Int → Int → Option (Int × Int)) (a0 : List (List Int)) (x2 : List Int) (k0 : Int → Option (Int × Int)) (start0 : Int) (v11 : Int) : Option (Int × Int) :=
 bif decide (v11 < (List.length x2 : Int)) then ((ix x2 v11).bind fun x3 =>
 r2 (W ((W (start0 * (List.length a0 : Int))) + x3)) (W (v11 + (1 : Int))))
 else (k0 start0)
def f37_i406_2 (a0 : List (List Int)) (x2 : List Int) (k0 : Int → Option (Int × Int)) : Nat → Int → Int → Option (Int × Int)
  | 0, _, _ => none
  | n + 1, start0, v11 => f37_i406_2b (f37_i406_2 a0 x2 k0 n) a0 x2 k0 start0 v11
def Sf37_i406_2 : Ann := ⟨[0, 2, 9, 10, 11], [0], [], []⟩
def Vf37_i406_2 (a0 : List (List Int)) (x2 : List Int) (start0 : Int) (v11 : Int) : List SV := [.dat (iN start0), .fn 73 [] [.ptr 0 0], .dat (sl_iN x2), .dat (iN (List.length x2 : Int)), .dat (iN v11)]
def Bf37_i406_2 (a0 : List (List Int)) (x2 : List Int) (start0 : Int) (v11 : Int) : List Blk := [.box [.dat (sl_sl_iN a0)]]
def Yf37_i406_2 (a0 : List (List Int)) (x2 : List Int) (y : Nat × Int × Int) : List SV := Vf37_i406_2 a0 x2 y.2.1 y.2.2
def Xf37_i406_2 (a0 : List (List Int)) (x2 : List Int) (y : Nat × Int × Int) : List Blk := Bf37_i406_2 a0 x2 y.2.1 y.2.2
def Jf37_i406_2 (a0 : List (List Int)) (x2 : List Int) (k0 : Int → Option (Int × Int)) (r : Int × Int) (y : Nat × Int × Int) : Prop := f37_i406_2 a0 x2 k0 y.1 y.2.1 y.2.2 = some r
theorem Lf37_i406_2 {r : Int × Int} {a0 : List (List Int)} {x2 : List Int} {k0 : Int → Option (Int × Int)} {fu : Nat} {start0 : Int} {v11 : Int} (hz : Sf37_i406_2.ok p = true) (h0 : AtH Sf37_i406_2 st (Vf37_i406_2 a0 x2 start0 v11) (Bf37_i406_2 a0 x2 start0 v11)) (h : ∀ (n : Nat) (start0 : Int) (v11 : Int), f37_i406_2b (f37_i406_2 a0 x2 k0 n) a0 x2 k0 start0 v11 = some r → vc c p nid a (St.mk' Sf37_i406_2 (Vf37_i406_2 a0 x2 start0 v11) (Bf37_i406_2 a0 x2 start0 v11)) (Kloop Sf37_i406_2 (Yf37_i406_2 a0 x2) (Xf37_i406_2 a0 x2) (Jf37_i406_2 a0 x2 k0 r) Prod.fst (n + 1, start0, v11) K)) (hF : f37_i406_2 a0 x2 k0 fu start0 v11 = some r) : vc c p nid (.loop a) st K := by
  refine vc_loop Sf37_i406_2 (Yf37_i406_2 a0 x2) (Xf37_i406_2 a0 x2) (Jf37_i406_2 a0 x2 k0 r) Prod.fst hz (kheadL (x := (fu, start0, v11)) hF h0) ?_
  rintro ⟨_ | n, start0, v11⟩ hI
  · cases hI
  · exact h n start0 v11 hI
theorem Mf37_i406_2 {r : Int × Int} {a0 : List (List Int)} {x2 : List Int} {k0 : Int → Option (Int × Int)} {n : Nat} {start0 : Int} {v11 : Int} {start0_ : Int} {v11_ : Int} (hF : f37_i406_2 a0 x2 k0 n start0 v11 = some r) (h0 : AtH Sf37_i406_2 st (Vf37_i406_2 a0 x2 start0 v11) (Bf37_i406_2 a0 x2 start0 v11)) : Kloop Sf37_i406_2 (Yf37_i406_2 a0 x2) (Xf37_i406_2 a0 x2) (Jf37_i406_2 a0 x2 k0 r) Prod.fst (n + 1, start0_, v11_) K .normal st := by
  exact kback (y := (n, start0, v11)) hF (Nat.lt_succ_self n) h0
def f37 (N : Nat) (a0 : List (List Int)) (a1 : List Int) : Option (Int × Int) :=
 (f27 N a0 a1).bind fun x1 =>
 bif decide (¬ x1 = (0 : Int)) then (some ((0 : Int), x1))
 else ((sub a1 0 (W ((List.length a1 : Int) - (1 : Int)))).bind fun x2 =>
 joinK (f37_i406_c6 a0) fun k0 =>
 f37_i406_2 a0 x2 k0 N (0 : Int) (0 : Int))
def G37 (ds : List D) (d : D) : Prop := ∃ (N : Nat) (a0 : List (List Int)) (a1 : List Int) (r : Int × Int), ds = [sl_sl_iN a0, sl_iN a1] ∧ f37 N a0 a1 = some r ∧ d = .tup [iN r.1, iN r.2]
theorem G37.lend {N : Nat} {a0 : List (List Int)} {a1 : List Int} {ρ : Type} {A : (Int × Int) → Option ρ} {q : ρ} {ds : List D} {K : D → Prop} (hd : ds = [sl_sl_iN a0, sl_iN a1]) (h : ∀ r, A r = some q → K (.tup [iN r.1, iN r.2])) (hF : (f37 N a0 a1).bind A = some q) : ∃ d, (G37 ds d ∧ d.flatB = true) ∧ K d := by
  obtain ⟨r, hr, hA⟩ := bind_some hF
  exact ⟨_, ⟨⟨N, a0, a1, r, hd, hr, rfl⟩, rfl⟩, h r hA⟩
theorem G37.step {N : Nat} {a0 : List (List Int)} {a1 : List Int} {ρ : Type} {A : (Int × Int) → Option ρ} {q : ρ} {ds : List D} {K : D → Prop} (hd : ds = [sl_sl_iN a0, sl_iN a1]) (h : ∀ r, A r = some q → K (.tup [iN r.1, iN r.2])) (hF : (f37 N a0 a1).bind A = some q) : ∃ d, G37 ds d ∧ K d := by
  obtain ⟨r, hr, hA⟩ := bind_some hF
  exact ⟨_, ⟨N, a0, a1, r, hd, hr, rfl⟩, h r hA⟩
set_option maxRecDepth 20000 in
set_option maxHeartbeats 4000000 in
theorem P37 : PureOK Try.prog 37 G37 := by
  refine pure_of_vc (c := mkCtx tyTree [(72, false, inlPg (mkCtx tyTree [(73, false, inlPg (mkCtx tyTree []) Try.f73)]) Try.f72), (27, true, lendPg [[1], [1]] G27)]) rfl tyOK (ctx_eff (callable Try.func72 rfl rfl) (CallOK.inl rfl tyOK (ctx_eff (callable Try.func73 rfl rfl) (CallOK.inl rfl tyOK (ctx_nil) Try.func73 (by kernel_rfl)) (ctx_nil)) Try.func72 (by kernel_rfl)) (ctx_lend (callable Try.func27 rfl rfl) P27 (ctx_nil))) [[0], [0]] 2 Try.func37 rfl rfl (by decide) (by kernel_rfl) ?_
  rintro ds d ⟨N, a0, a1, r, rfl, hF, rfl⟩ hok
  clear hok
  refine ⟨rfl, ?_⟩
  show vc _ _ _ _ ⟨[(0, .dat (sl_sl_iN a0)), (1, .dat (sl_iN a1))], []⟩ _
  unfold f37 at hF
  repeat' (first
    | ((with_reducible refine q0 _ _ ?_); clear Q q0 q1 q2)
    | ((with_reducible refine q1 _ _ _ _ ?_); clear Q q0 q1 q2)
    | ((with_reducible refine q2 _ _ _ ?_); clear Q q0 q1 q2)
    | ((with_reducible refine seq_op ?hx (fun Q q0 q1 q2 => ?_)); (case hx => exact rfl); conv => whnf)
    | ((with_reducible refine cond_id ?_); (first | ((refine condKT rfl ?hy ?_); (case hy => first | assumption | exact notT (by assumption) | exact rfl)) | ((refine condKF rfl ?hy ?_); (case hy => first | assumption | exact notF (by assumption) | exact rfl)) | (revert hF; (with_reducible refine condF ?hx ?_ ?_); (case hx => exact rfl); all_goals (intro hc hF))))
    | ((with_reducible refine seq_nil ?_); (first | ((with_reducible refine hR _ ?_); clear R hR) | ((with_reducible refine hL _ ?_); clear L hL)))
    | ((with_reducible refine int_step ?_); conv => whnf)
    | ((with_reducible refine len_step ?_); conv => whnf)
    | ((with_reducible refine idx2 (by assumption) ?_); conv => whnf)
    | ((with_reducible refine idx3 (by assumption) ?_); conv => whnf)
    | with_reducible refine vc_block ?_
    | with_reducible refine vc_skip ?_
    | with_reducible refine vc_ret ?_
    | with_reducible refine vc_exit ?_
    | ((with_reducible refine vc_seqN [407000000006] ?hx ?_); (case hx => exact rfl))
    | (with_reducible refine vc_region (fun R hR => ?_))
    | fail
    | (revert hF; (refine Cf37_i406_c6 rfl rfl ?_ ?_); (intro hF); rotate_left; (intro start0 hF; unfold f37_i406_c6 at hF); rotate_right)
    | exact Zf37_i406_c6 hF ⟨_, rfl, rfl, rfl, rfl⟩
    | (revert hF; (refine Lf37_i406_2 rfl ⟨_, rfl, rfl, rfl, rfl⟩ ?_); intro n start0 v11 hF; unfold f37_i406_2b at hF)
    | exact Mf37_i406_2 hF ⟨_, rfl, rfl, rfl, rfl⟩
    | (revert hF; (with_reducible refine G27.lend ?hx ?_); (case hx => exact rfl); intro v hF; conv => whnf)
    | with_reducible refine k_seq_ret ?_
    | with_reducible refine k_seq_exit ?_
    | with_reducible refine k_blk ?_
    | with_reducible refine k_blk_ret ?_
    | with_reducible refine k_blk_here ?_
    | ((with_reducible refine k_blk_out ?hx ?_); (case hx => exact rfl))
    | with_reducible refine k_loop_ret ?_
    | with_reducible refine k_loop_exit ?_
    | (revert hF; (with_reducible refine idx1 ?hn ?_); (case hn => first | exact rfl | exact (List.length_map _) | assumption | omega | simp); intro x hx hF; conv => whnf)
    | ((with_reducible have hG := sub_fact hF); clear hF; (refine sub_step hG (fun q hF => ?_)); clear hG; conv => whnf)
    | ((with_reducible refine Or.inr ?_); conv => whnf)
    | ((refine row_all ?hn ?_); (case hn => first | exact rfl | (simp; done) | (simp; omega)); conv => whnf)
    | ((with_reducible refine le_step ?hn ?_); (case hn => first | exact rfl | assumption | omega); conv => whnf)
    | ((refine ⟨?hx, ?_⟩); (case hx => exact ⟨rfl, Nat.le_of_ble_eq_true rfl, rfl⟩); conv => whnf)
    | ((with_reducible refine ex_step ?_); conv => whnf)
    | ((with_reducible refine both_T ?hx ?_); (case hx => first | exact rfl | assumption | exact notT (by assumption)); conv => whnf)
    | ((with_reducible refine both_F ?hx ?_); (case hx => first | exact rfl | assumption | exact notF (by assumption)); conv => whnf)
    | (revert hF; (with_reducible refine ite_step ?_ ?_) <;> (intro hc hF; conv => whnf))
    | ((with_reducible refine vc_condT ?hx ?_); (case hx => exact rfl))
    | ((with_reducible refine vc_condF ?hx ?_); (case hx => exact rfl))
    | (show retD _ _ _ _ _ _; conv => whnf)
    | ((refine inl_step ?ha ?hb ?hc rfl ?_); (case ha => exact rfl); (case hb => omega); (case hc => exact Nat.le_of_ble_eq_true rfl))
    | (show Kinl _ _ _ _ _ _ _; conv => whnf)
    | ((with_reducible refine kinl_step ?ha ?hb ?_); (case ha => exact rfl); (case hb => exact rfl); conv => whnf)
    | ((refine ⟨?hx, trivial⟩); (case hx => (cases hF; exact rfl)))
    | ((refine ⟨?hx, ?_⟩); (case hx => decide); conv => whnf)
    | ((with_reducible refine k_seq ?_))
    | (have hF : (none : Option _) = some _ := hF; cases hF))
end
end Go.Vc
namespace Go.Vc
open Go.Proofs
set_option linter.unusedVariables false
set_option linter.unnecessarySimpa false
set_option linter.unusedSimpArgs false
section
variable {c : Ctx} {p nid : Nat} {a b : Code} {st : St} {K : Ex → St → Prop}
/- f74: tusche/serial.divisor -/
def f74_c3 (a0' : Int) : Option (Int) :=
 some (a0')
def Sf74_c3 : Ann := ⟨[0], [], [], []⟩
def Vf74_c3 (a0' : Int) : List SV := [.dat (iN (a0'))]
def Bf74_c3 (a0' : Int) : List Blk := []
def Yf74_c3 (y : Int) : List SV := Vf74_c3 y
def Xf74_c3 (y : Int) : List Blk := Bf74_c3 y
def Jf74_c3 (r : Int) (y : Int) : Prop := f74_c3 y = some r
theorem Cf74_c3 {r : Int} {g : _ → Option (Int)} (hn : Nat.beq (nid * 1000 + firstRegion b) 3 = true) (hz : Sf74_c3.ok p = true) (h : g f74_c3 = some r → vc c p nid a st (KHead Sf74_c3 Yf74_c3 Xf74_c3 (Jf74_c3 r) K)) (h2 : ∀ (a0' : Int), f74_c3 a0' = some r → vc c p nid b (St.mk' Sf74_c3 (Vf74_c3 a0') (Bf74_c3 a0')) K) (hF : joinK f74_c3 g = some r) : vc c p nid (.seq a b) st K :=
  vc_cut Sf74_c3 Yf74_c3 Xf74_c3 (Jf74_c3 r) hz (h hF) fun y hy => h2 y hy
theorem Zf74_c3 {r : Int} {a0' : Int} (hF : f74_c3 a0' = some r) (h0 : AtH Sf74_c3 st (Vf74_c3 a0') (Bf74_c3 a0')) : KHead Sf74_c3 Yf74_c3 Xf74_c3 (Jf74_c3 r) K .normal st := by
  exact khead (I := (Jf74_c3 r)) (x := (a0')) hF h0
def f74_1b (r1 : Int → Int → Option (Int)) (k0 : Int → Option (Int)) (a0' : Int) (b1 : Int) : Option (Int) :=
 bif decide ((0 : Int) < b1) then ((chk (decide (b1 ≠ 0))).bind fun _ =>
 r1 b1 (Int.tmod (a0') b1))
 else (k0 (a0'))
def f74_1 (k0 : Int → Option (Int)) : Nat → Int → Int → Option (Int)
  | 0, _, _ => none
  | n + 1, a0', b1 => f74_1b (f74_1 k0 n) k0 a0' b1
def Sf74_1 : Ann := ⟨[0, 1], [], [], []⟩
def Vf74_1 (a0' : Int) (b1 : Int) : List SV := [.dat (iN (a0')), .dat (iN b1)]
def Bf74_1 (a0' : Int) (b1 : Int) : List Blk := []
def Yf74_1 (y : Nat × Int × Int) : List SV := Vf74_1 y.2.1 y.2.2
def Xf74_1 (y : Nat × Int × Int) : List Blk := Bf74_1 y.2.1 y.2.2
def Jf74_1 (k0 : Int → Option (Int)) (r : Int) (y : Nat × Int × Int) : Prop := f74_1 k0 y.1 y.2.1 y.2.2 = some r
theorem Lf74_1 {r : Int} {k0 : Int → Option (Int)} {fu : Nat} {a0' : Int} {b1 : Int} (hz : Sf74_1.ok p = true) (h0 : AtH Sf74_1 st (Vf74_1 a0' b1) (Bf74_1 a0' b1)) (h : ∀ (n : Nat) (a0' : Int) (b1 : Int), f74_1b (f74_1 k0 n) k0 a0' b1 = some r → vc c p nid a (St.mk' Sf74_1 (Vf74_1 a0' b1) (Bf74_1 a0' b1)) (Kloop Sf74_1 Yf74_1 Xf74_1 (Jf74_1 k0 r) Prod.fst (n + 1, a0', b1) K)) (hF : f74_1 k0 fu a0' b1 = some r) : vc c p nid (.loop a) st K := by
  refine vc_loop Sf74_1 Yf74_1 Xf74_1 (Jf74_1 k0 r) Prod.fst hz (kheadL (x := (fu, a0', b1)) hF h0) ?_
  rintro ⟨_ | n, a0', b1⟩ hI
  · cases hI
  · exact h n a0' b1 hI
theorem Mf74_1 {r : Int} {k0 : Int → Option (Int)} {n : Nat} {a0' : Int} {b1 : Int} {a0'_ : Int} {b1_ : Int} (hF : f74_1 k0 n a0' b1 = some r) (h0 : AtH Sf74_1 st (Vf74_1 a0' b1) (Bf74_1 a0' b1)) : Kloop Sf74_1 Yf74_1 Xf74_1 (Jf74_1 k0 r) Prod.fst (n + 1, a0'_, b1_) K .normal st := by
  exact kback (y := (n, a0', b1)) hF (Nat.lt_succ_self n) h0
def f74 (N : Nat) (a0 : Int) (a1 : Int) : Option (Int) :=
 joinK f74_c3 fun k0 =>
 f74_1 k0 N a0 a1
def G74 (ds : List D) (d : D) : Prop := ∃ (N : Nat) (a0 : Int) (a1 : Int) (r : Int), ds = [iN a0, iN a1] ∧ f74 N a0 a1 = some r ∧ d = iN r
theorem G74.lend {N : Nat} {a0 : Int} {a1 : Int} {ρ : Type} {A : Int → Option ρ} {q : ρ} {ds : List D} {K : D → Prop} (hd : ds = [iN a0, iN a1]) (h : ∀ r, A r = some q → K (iN r)) (hF : (f74 N a0 a1).bind A = some q) : ∃ d, (G74 ds d ∧ d.flatB = true) ∧ K d := by
  obtain ⟨r, hr, hA⟩ := bind_some hF
  exact ⟨_, ⟨⟨N, a0, a1, r, hd, hr, rfl⟩, rfl⟩, h r hA⟩
theorem G74.step {N : Nat} {a0 : Int} {a1 : Int} {ρ : Type} {A : Int → Option ρ} {q : ρ} {ds : List D} {K : D → Prop} (hd : ds = [iN a0, iN a1]) (h : ∀ r, A r = some q → K (iN r)) (hF : (f74 N a0 a1).bind A = some q) : ∃ d, G74 ds d ∧ K d := by
  obtain ⟨r, hr, hA⟩ := bind_some hF
  exact ⟨_, ⟨N, a0, a1, r, hd, hr, rfl⟩, h r hA⟩
set_option maxRecDepth 20000 in
set_option maxHeartbeats 4000000 in
theorem P74 : PureOK Try.prog 74 G74 := by
  refine pure_of_vc (c := mkCtx tyTree []) rfl tyOK (ctx_nil) [[0]] 2 Try.func74 rfl rfl (by decide) (by kernel_rfl) ?_
  rintro ds d ⟨N, a0, a1, r, rfl, hF, rfl⟩ hok
  clear hok
  refine ⟨rfl, ?_⟩
  show vc _ _ _ _ ⟨[(0, .dat (iN a0)), (1, .dat (iN a1))], []⟩ _
  unfold f74 at hF
  repeat' (first
    | ((with_reducible refine q0 _ _ ?_); clear Q q0 q1 q2)
    | ((with_reducible refine q1 _ _ _ _ ?_); clear Q q0 q1 q2)
    | ((with_reducible refine q2 _ _ _ ?_); clear Q q0 q1 q2)
    | ((with_reducible refine seq_op ?hx (fun Q q0 q1 q2 => ?_)); (case hx => exact rfl); conv => whnf)
    | ((with_reducible refine draw_op ?hx (fun Q q0 q1 q2 => ?_)); (case hx => exact rfl); conv => whnf)
    | ((with_reducible refine cond_id ?_); (first | ((refine condKT rfl ?hy ?_); (case hy => first | assumption | exact notT (by assumption) | exact rfl)) | ((refine condKF rfl ?hy ?_); (case hy => first | assumption | exact notF (by assumption) | exact rfl)) | (revert hF; (with_reducible refine condF ?hx ?_ ?_); (case hx => exact rfl); all_goals (intro hc hF))))
    | ((with_reducible refine seq_nil ?_); (first | ((with_reducible refine hR _ ?_); clear R hR) | ((with_reducible refine hL _ ?_); clear L hL)))
    | ((with_reducible refine draw_nil ?_); (with_reducible refine hR _ _ ?hx ?_); (case hx => kernel_rfl); (first | clear R hR | clear hR))
    | ((with_reducible refine int_step ?_); conv => whnf)
    | with_reducible refine vc_block ?_
    | with_reducible refine vc_skip ?_
    | with_reducible refine vc_ret ?_
    | with_reducible refine vc_exit ?_
    | ((with_reducible refine vc_seqN [3] ?hx ?_); (case hx => exact rfl))
    | (with_reducible refine vc_region (fun R hR => ?_))
    | ((with_reducible refine vc_draw ?hx (fun R hR => ?_)); (case hx => exact rfl))
    | fail
    | (revert hF; (refine Cf74_c3 rfl rfl ?_ ?_); (intro hF); rotate_left; (intro a0' hF; unfold f74_c3 at hF); rotate_right)
    | exact Zf74_c3 hF ⟨_, rfl, rfl, rfl, rfl⟩
    | (revert hF; (refine Lf74_1 rfl ⟨_, rfl, rfl, rfl, rfl⟩ ?_); intro n a0' b1 hF; unfold f74_1b at hF)
    | exact Mf74_1 hF ⟨_, rfl, rfl, rfl, rfl⟩
    | with_reducible refine k_seq_ret ?_
    | with_reducible refine k_seq_exit ?_
    | with_reducible refine k_blk ?_
    | with_reducible refine k_blk_ret ?_
    | with_reducible refine k_blk_here ?_
    | ((with_reducible refine k_blk_out ?hx ?_); (case hx => exact rfl))
    | with_reducible refine k_loop_ret ?_
    | with_reducible refine k_loop_exit ?_
    | ((refine row_all ?hn ?_); (case hn => first | exact rfl | (simp; done) | (simp; omega)); conv => whnf)
    | ((with_reducible refine le_step ?hn ?_); (case hn => first | exact rfl | assumption | omega); conv => whnf)
    | ((refine ⟨?hx, ?_⟩); (case hx => exact ⟨rfl, Nat.le_of_ble_eq_true rfl, rfl⟩); conv => whnf)
    | ((with_reducible refine ex_step ?_); conv => whnf)
    | ((with_reducible have hG := chk_fact hF); clear hF; (refine ⟨?hx, ?_⟩); (case hx => (first | exact of_decide_eq_true hG.1 | exact hG.1)); have hF := hG.2; clear hG; conv => whnf)
    | ((with_reducible refine both_T ?hx ?_); (case hx => first | exact rfl | assumption | exact notT (by assumption)); conv => whnf)
    | ((with_reducible refine both_F ?hx ?_); (case hx => first | exact rfl | assumption | exact notF (by assumption)); conv => whnf)
    | (revert hF; (with_reducible refine ite_step ?_ ?_) <;> (intro hc hF; conv => whnf))
    | ((with_reducible refine vc_condT ?hx ?_); (case hx => exact rfl))
    | ((with_reducible refine vc_condF ?hx ?_); (case hx => exact rfl))
    | (show retD _ _ _ _ _ _; conv => whnf)
    | ((refine ⟨?hx, trivial⟩); (case hx => (cases hF; exact rfl)))
    | ((refine ⟨?hx, ?_⟩); (case hx => decide); conv => whnf)
    | ((with_reducible refine k_seq ?_))
    | (have hF : (none : Option _) = some _ := hF; cases hF))
end
end Go.Vc
namespace Go.Vc
open Go.Proofs
set_option linter.unusedVariables false
set_option linter.unnecessarySimpa false
set_option linter.unusedSimpArgs false
section
variable {c : Ctx} {p nid : Nat} {a b : Code} {st : St} {K : Ex → St → Prop}
/- f41: tusche/serial.Line -/
def f41_c15 (b501 : List (List Int)) : Option ((List (List Int)) × Int) :=
 some (b501, (0 : Int))
def Sf41_c15 : Ann := ⟨[6], [501], [], []⟩
def Vf41_c15 (b501 : List (List Int)) : List SV := [.rs 501 (List.length b501)]
def Bf41_c15 (b501 : List (List Int)) : List Blk := [.nest 27 3 1 none (List.map (List.map iN) b501)]
def Yf41_c15 (y : (List (List Int))) : List SV := Vf41_c15 y
def Xf41_c15 (y : (List (List Int))) : List Blk := Bf41_c15 y
def Jf41_c15 (r : (List (List Int)) × Int) (y : (List (List Int))) : Prop := f41_c15 y = some r
def V2f41_c15 (b501 : List (List Int)) (m0 : Nat) : List SV := [.rs 501 m0]
def B2f41_c15 (b501 : List (List Int)) (m0 : Nat) : List Blk := [.nest 27 3 1 none (List.map (List.map iN) b501)]
theorem Cf41_c15 {r : (List (List Int)) × Int} {g : _ → Option ((List (List Int)) × Int)} (hn : Nat.beq (nid * 1000 + firstRegion b) 15 = true) (hz : Sf41_c15.ok p = true) (h : g f41_c15 = some r → vc c p nid a st (KHead Sf41_c15 Yf41_c15 Xf41_c15 (Jf41_c15 r) K)) (h2 : ∀ (b501 : List (List Int)), f41_c15 b501 = some r → vc c p nid b (St.mk' Sf41_c15 (Vf41_c15 b501) (Bf41_c15 b501)) K) (hF : joinK f41_c15 g = some r) : vc c p nid (.seq a b) st K :=
  vc_cut Sf41_c15 Yf41_c15 Xf41_c15 (Jf41_c15 r) hz (h hF) fun y hy => h2 y hy
theorem Zf41_c15 {r : (List (List Int)) × Int} {b501 : List (List Int)} {m0 : Nat} (hF : f41_c15 b501 = some r) (h0 : AtH Sf41_c15 st (V2f41_c15 b501 m0) (B2f41_c15 b501 m0)) (em0 : m0 = List.length b501) : KHead Sf41_c15 Yf41_c15 Xf41_c15 (Jf41_c15 r) K .normal st := by
  subst em0; exact khead (I := (Jf41_c15 r)) (x := (b501)) hF h0
def f41_c14 (a0 : Int) (a1 : Int) (x4 : List (List Int)) (v29 : Int) (r7 : Int → (List (List Int)) → Option ((List (List Int)) × Int)) (b501' : List (List Int)) : Option ((List (List Int)) × Int) :=
 r7 (W (v29 + (1 : Int))) (b501')
def Sf41_c14 : Ann := ⟨[0, 1, 6, 28, 29], [501], [], []⟩
def Vf41_c14 (a0 : Int) (a1 : Int) (x4 : List (List Int)) (v29 : Int) (b501' : List (List Int)) : List SV := [.dat (iN a0), .dat (iN a1), .rs 501 (List.length (b501')), .dat (iN (List.length x4 : Int)), .dat (iN v29)]
def Bf41_c14 (a0 : Int) (a1 : Int) (x4 : List (List Int)) (v29 : Int) (b501' : List (List Int)) : List Blk := [.nest 27 3 1 none (List.map (List.map iN) (b501'))]
def Yf41_c14 (a0 : Int) (a1 : Int) (x4 : List (List Int)) (v29 : Int) (y : (List (List Int))) : List SV := Vf41_c14 a0 a1 x4 v29 y
def Xf41_c14 (a0 : Int) (a1 : Int) (x4 : List (List Int)) (v29 : Int) (y : (List (List Int))) : List Blk := Bf41_c14 a0 a1 x4 v29 y
def Jf41_c14 (a0 : Int) (a1 : Int) (x4 : List (List Int)) (v29 : Int) (r7 : Int → (List (List Int)) → Option ((List (List Int)) × Int)) (r : (List (List Int)) × Int) (y : (List (List Int))) : Prop := f41_c14 a0 a1 x4 v29 r7 y = some r
def V2f41_c14 (a0 : Int) (a1 : Int) (x4 : List (List Int)) (v29 : Int) (b501' : List (List Int)) (m0 : Nat) : List SV := [.dat (iN a0), .dat (iN a1), .rs 501 m0, .dat (iN (List.length x4 : Int)), .dat (iN v29)]
def B2f41_c14 (a0 : Int) (a1 : Int) (x4 : List (List Int)) (v29 : Int) (b501' : List (List Int)) (m0 : Nat) : List Blk := [.nest 27 3 1 none (List.map (List.map iN) (b501'))]
theorem Cf41_c14 {r : (List (List Int)) × Int} {a0 : Int} {a1 : Int} {x4 : List (List Int)} {v29 : Int} {r7 : Int → (List (List Int)) → Option ((List (List Int)) × Int)} {g : _ → Option ((List (List Int)) × Int)} (hn : Nat.beq (nid * 1000 + firstRegion b) 14 = true) (hz : Sf41_c14.ok p = true) (h : g (f41_c14 a0 a1 x4 v29 r7) = some r → vc c p nid a st (KHead Sf41_c14 (Yf41_c14 a0 a1 x4 v29) (Xf41_c14 a0 a1 x4 v29) (Jf41_c14 a0 a1 x4 v29 r7 r) K)) (h2 : ∀ (b501' : List (List Int)), f41_c14 a0 a1 x4 v29 r7 b501' = some r → vc c p nid b (St.mk' Sf41_c14 (Vf41_c14 a0 a1 x4 v29 b501') (Bf41_c14 a0 a1 x4 v29 b501')) K) (hF : joinK (f41_c14 a0 a1 x4 v29 r7) g = some r) : vc c p nid (.seq a b) st K :=
  vc_cut Sf41_c14 (Yf41_c14 a0 a1 x4 v29) (Xf41_c14 a0 a1 x4 v29) (Jf41_c14 a0 a1 x4 v29 r7 r) hz (h hF) fun y hy => h2 y hy
theorem Zf41_c14 {r : (List (List Int)) × Int} {a0 : Int} {a1 : Int} {x4 : List (List Int)} {v29 : Int} {r7 : Int → (List (List Int)) → Option ((List (List Int)) × Int)} {b501' : List (List Int)} {m0 : Nat} (hF : f41_c14 a0 a1 x4 v29 r7 b501' = some r) (h0 : AtH Sf41_c14 st (V2f41_c14 a0 a1 x4 v29 b501' m0) (B2f41_c14 a0 a1 x4 v29 b501' m0)) (em0 : m0 = List.length (b501')) : KHead Sf41_c14 (Yf41_c14 a0 a1 x4 v29) (Xf41_c14 a0 a1 x4 v29) (Jf41_c14 a0 a1 x4 v29 r7 r) K .normal st := by
  subst em0; exact khead (I := (Jf41_c14 a0 a1 x4 v29 r7 r)) (x := (b501')) hF h0
def f41_10b (r10 : Int → (List (List Int)) → Option ((List (List Int)) × Int)) (a0 : Int) (a1 : Int) (x4 : List (List Int)) (v29 : Int) (k1 : (List (List Int)) → Option ((List (List Int)) × Int)) (v33 : Int) (b501' : List (List Int)) : Option ((List (List Int)) × Int) :=
 bif decide (v33 < a0) then ((ix (b501') v29).bind fun x5 =>
 (chk (decide (a0 ≠ 0))).bind fun _ =>
 (app 8 x5 [Int.tmod (W ((W (a1 * v29)) + v33)) a0]).bind fun x6 =>
 (ix (b501') v29).bind fun x7 =>
 (setx (b501') v29 x6).bind fun x8 =>
 r10 (W (v33 + (1 : Int))) x8)
 else (k1 (b501'))
def f41_10 (a0 : Int) (a1 : Int) (x4 : List (List Int)) (v29 : Int) (k1 : (List (List Int)) → Option ((List (List Int)) × Int)) : Nat → Int → (List (List Int)) → Option ((List (List Int)) × Int)
  | 0, _, _ => none
  | n + 1, v33, b501' => f41_10b (f41_10 a0 a1 x4 v29 k1 n) a0 a1 x4 v29 k1 v33 b501'
def Sf41_10 : Ann := ⟨[0, 1, 6, 7, 28, 29, 32, 33], [501], [], []⟩
def Vf41_10 (a0 : Int) (a1 : Int) (x4 : List (List Int)) (v29 : Int) (v33 : Int) (b501' : List (List Int)) : List SV := [.dat (iN a0), .dat (iN a1), .rs 501 (List.length (b501')), .dat (iN v29), .dat (iN (List.length x4 : Int)), .dat (iN v29), .dat (iN a0), .dat (iN v33)]
def Bf41_10 (a0 : Int) (a1 : Int) (x4 : List (List Int)) (v29 : Int) (v33 : Int) (b501' : List (List Int)) : List Blk := [.nest 27 3 1 none (List.map (List.map iN) (b501'))]
def Yf41_10 (a0 : Int) (a1 : Int) (x4 : List (List Int)) (v29 : Int) (y : Nat × Int × (List (List Int))) : List SV := Vf41_10 a0 a1 x4 v29 y.2.1 y.2.2
def Xf41_10 (a0 : Int) (a1 : Int) (x4 : List (List Int)) (v29 : Int) (y : Nat × Int × (List (List Int))) : List Blk := Bf41_10 a0 a1 x4 v29 y.2.1 y.2.2
def Jf41_10 (a0 : Int) (a1 : Int) (x4 : List (List Int)) (v29 : Int) (k1 : (List (List Int)) → Option ((List (List Int)) × Int)) (r : (List (List Int)) × Int) (y : Nat × Int × (List (List Int))) : Prop := f41_10 a0 a1 x4 v29 k1 y.1 y.2.1 y.2.2 = some r
def V2f41_10 (a0 : Int) (a1 : Int) (x4 : List (List Int)) (v29 : Int) (v33 : Int) (b501' : List (List Int)) (m0 : Nat) : List SV := [.dat (iN a0), .dat (iN a1), .rs 501 m0, .dat (iN v29), .dat (iN (List.length x4 : Int)), .dat (iN v29), .dat (iN a0), .dat (iN v33)]
def B2f41_10 (a0 : Int) (a1 : Int) (x4 : List (List Int)) (v29 : Int) (v33 : Int) (b501' : List (List Int)) (m0 : Nat) : List Blk := [.nest 27 3 1 none (List.map (List.map iN) (b501'))]
theorem Lf41_10 {r : (List (List Int)) × Int} {a0 : Int} {a1 : Int} {x4 : List (List Int)} {v29 : Int} {k1 : (List (List Int)) → Option ((List (List Int)) × Int)} {fu : Nat} {v33 : Int} {b501' : List (List Int)} {m0 : Nat} (hz : Sf41_10.ok p = true) (h0 : AtH Sf41_10 st (V2f41_10 a0 a1 x4 v29 v33 b501' m0) (B2f41_10 a0 a1 x4 v29 v33 b501' m0)) (em0 : m0 = List.length (b501')) (h : ∀ (n : Nat) (v33 : Int) (b501' : List (List Int)), f41_10b (f41_10 a0 a1 x4 v29 k1 n) a0 a1 x4 v29 k1 v33 b501' = some r → vc c p nid a (St.mk' Sf41_10 (Vf41_10 a0 a1 x4 v29 v33 b501') (Bf41_10 a0 a1 x4 v29 v33 b501')) (Kloop Sf41_10 (Yf41_10 a0 a1 x4 v29) (Xf41_10 a0 a1 x4 v29) (Jf41_10 a0 a1 x4 v29 k1 r) Prod.fst (n + 1, v33, b501') K)) (hF : f41_10 a0 a1 x4 v29 k1 fu v33 b501' = some r) : vc c p nid (.loop a) st K := by
  subst em0; refine vc_loop Sf41_10 (Yf41_10 a0 a1 x4 v29) (Xf41_10 a0 a1 x4 v29) (Jf41_10 a0 a1 x4 v29 k1 r) Prod.fst hz (kheadL (x := (fu, v33, b501')) hF h0) ?_
  rintro ⟨_ | n, v33, b501'⟩ hI
  · cases hI
  · exact h n v33 b501' hI
theorem Mf41_10 {r : (List (List Int)) × Int} {a0 : Int} {a1 : Int} {x4 : List (List Int)} {v29 : Int} {k1 : (List (List Int)) → Option ((List (List Int)) × Int)} {n : Nat} {v33 : Int} {b501' : List (List Int)} {v33_ : Int} {b501'_ : List (List Int)} {m0 : Nat} (hF : f41_10 a0 a1 x4 v29 k1 n v33 b501' = some r) (h0 : AtH Sf41_10 st (V2f41_10 a0 a1 x4 v29 v33 b501' m0) (B2f41_10 a0 a1 x4 v29 v33 b501' m0)) (em0 : m0 = List.length (b501')) : Kloop Sf41_10 (Yf41_10 a0 a1 x4 v29) (Xf41_10 a0 a1 x4 v29) (Jf41_10 a0 a1 x4 v29 k1 r) Prod.fst (n + 1, v33_, b501'_) K .normal st := by
  subst em0; exact kback (y := (n, v33, b501')) hF (Nat.lt_succ_self n) h0
def f41_7b (r7 : Int → (List (List Int)) → Option ((List (List Int)) × Int)) (a0 : Int) (a1 : Int) (N : Nat) (x4 : List (List Int)) (k0 : (List (List Int)) → Option ((List (List Int)) × Int)) (v29 : Int) (b501 : List (List Int)) : Option ((List (List Int)) × Int) :=
 bif decide (v29 < (List.length x4 : Int)) then (joinK (f41_c14 a0 a1 x4 v29 r7) fun k1 =>
 f41_10 a0 a1 x4 v29 k1 N (0 : Int) b501)
 else (k0 b501)
def f41_7 (a0 : Int) (a1 : Int) (N : Nat) (x4 : List (List Int)) (k0 : (List (List Int)) → Option ((List (List Int)) × Int)) : Nat → Int → (List (List Int)) → Option ((List (List Int)) × Int)
  | 0, _, _ => none
  | n + 1, v29, b501 => f41_7b (f41_7 a0 a1 N x4 k0 n) a0 a1 N x4 k0 v29 b501
def Sf41_7 : Ann := ⟨[0, 1, 6, 28, 29], [501], [], []⟩
def Vf41_7 (a0 : Int) (a1 : Int) (x4 : List (List Int)) (v29 : Int) (b501 : List (List Int)) : List SV := [.dat (iN a0), .dat (iN a1), .rs 501 (List.length b501), .dat (iN (List.length x4 : Int)), .dat (iN v29)]
def Bf41_7 (a0 : Int) (a1 : Int) (x4 : List (List Int)) (v29 : Int) (b501 : List (List Int)) : List Blk := [.nest 27 3 1 none (List.map (List.map iN) b501)]
def Yf41_7 (a0 : Int) (a1 : Int) (x4 : List (List Int)) (y : Nat × Int × (List (List Int))) : List SV := Vf41_7 a0 a1 x4 y.2.1 y.2.2
def Xf41_7 (a0 : Int) (a1 : Int) (x4 : List (List Int)) (y : Nat × Int × (List (List Int))) : List Blk := Bf41_7 a0 a1 x4 y.2.1 y.2.2
def Jf41_7 (a0 : Int) (a1 : Int) (N : Nat) (x4 : List (List Int)) (k0 : (List (List Int)) → Option ((List (List Int)) × Int)) (r : (List (List Int)) × Int) (y : Nat × Int × (List (List Int))) : Prop := f41_7 a0 a1 N x4 k0 y.1 y.2.1 y.2.2 = some r
def V2f41_7 (a0 : Int) (a1 : Int) (x4 : List (List Int)) (v29 : Int) (b501 : List (List Int)) (m0 : Nat) : List SV := [.dat (iN a0), .dat (iN a1), .rs 501 m0, .dat (iN (List.length x4 : Int)), .dat (iN v29)]
def B2f41_7 (a0 : Int) (a1 : Int) (x4 : List (List Int)) (v29 : Int) (b501 : List (List Int)) (m0 : Nat) : List Blk := [.nest 27 3 1 none (List.map (List.map iN) b501)]
theorem Lf41_7 {r : (List (List Int)) × Int} {a0 : Int} {a1 : Int} {N : Nat} {x4 : List (List Int)} {k0 : (List (List Int)) → Option ((List (List Int)) × Int)} {fu : Nat} {v29 : Int} {b501 : List (List Int)} {m0 : Nat} (hz : Sf41_7.ok p = true) (h0 : AtH Sf41_7 st (V2f41_7 a0 a1 x4 v29 b501 m0) (B2f41_7 a0 a1 x4 v29 b501 m0)) (em0 : m0 = List.length b501) (h : ∀ (n : Nat) (v29 : Int) (b501 : List (List Int)), f41_7b (f41_7 a0 a1 N x4 k0 n) a0 a1 N x4 k0 v29 b501 = some r → vc c p nid a (St.mk' Sf41_7 (Vf41_7 a0 a1 x4 v29 b501) (Bf41_7 a0 a1 x4 v29 b501)) (Kloop Sf41_7 (Yf41_7 a0 a1 x4) (Xf41_7 a0 a1 x4) (Jf41_7 a0 a1 N x4 k0 r) Prod.fst (n + 1, v29, b501) K)) (hF : f41_7 a0 a1 N x4 k0 fu v29 b501 = some r) : vc c p nid (.loop a) st K := by
  subst em0; refine vc_loop Sf41_7 (Yf41_7 a0 a1 x4) (Xf41_7 a0 a1 x4) (Jf41_7 a0 a1 N x4 k0 r) Prod.fst hz (kheadL (x := (fu, v29, b501)) hF h0) ?_
  rintro ⟨_ | n, v29, b501⟩ hI
  · cases hI
  · exact h n v29 b501 hI
theorem Mf41_7 {r : (List (List Int)) × Int} {a0 : Int} {a1 : Int} {N : Nat} {x4 : List (List Int)} {k0 : (List (List Int)) → Option ((List (List Int)) × Int)} {n : Nat} {v29 : Int} {b501 : List (List Int)} {v29_ : Int} {b501_ : List (List Int)} {m0 : Nat} (hF : f41_7 a0 a1 N x4 k0 n v29 b501 = some r) (h0 : AtH Sf41_7 st (V2f41_7 a0 a1 x4 v29 b501 m0) (B2f41_7 a0 a1 x4 v29 b501 m0)) (em0 : m0 = List.length b501) : Kloop Sf41_7 (Yf41_7 a0 a1 x4) (Xf41_7 a0 a1 x4) (Jf41_7 a0 a1 N x4 k0 r) Prod.fst (n + 1, v29_, b501_) K .normal st := by
  subst em0; exact kback (y := (n, v29, b501)) hF (Nat.lt_succ_self n) h0
def f41 (N : Nat) (a0 : Int) (a1 : Int) : Option ((List (List Int)) × Int) :=
 (f64 N (2 : Int) a0 (10 : Int)).bind fun x1 =>
 bif !x1 then (some ([], (4 : Int)))
 else ((f64 N (1 : Int) a1 (W (a0 - (1 : Int)))).bind fun x2 =>
 bif !x2 then (some ([], (4 : Int)))
 else ((f74 N a0 a1).bind fun x3 =>
 bif decide ((1 : Int) < x3) then (some ([], (12 : Int)))
 else ((mkS 24 [] a0 a0).bind fun x4 =>
 joinK f41_c15 fun k0 =>
 f41_7 a0 a1 N x4 k0 N (0 : Int) x4)))
def G41 (ds : List D) (d : D) : Prop := ∃ (N : Nat) (a0 : Int) (a1 : Int) (r : (List (List Int)) × Int), ds = [iN a0, iN a1] ∧ f41 N a0 a1 = some r ∧ d = .tup [sl_sl_iN r.1, iN r.2]
theorem G41.step {N : Nat} {a0 : Int} {a1 : Int} {ρ : Type} {A : ((List (List Int)) × Int) → Option ρ} {q : ρ} {ds : List D} {K : D → Prop} (hd : ds = [iN a0, iN a1]) (h : ∀ r, A r = some q → K (.tup [sl_sl_iN r.1, iN r.2])) (hF : (f41 N a0 a1).bind A = some q) : ∃ d, G41 ds d ∧ K d := by
  obtain ⟨r, hr, hA⟩ := bind_some hF
  exact ⟨_, ⟨N, a0, a1, r, hd, hr, rfl⟩, h r hA⟩
set_option maxRecDepth 20000 in
set_option maxHeartbeats 4000000 in
theorem P41 : PureOK Try.prog 41 G41 := by
  refine pure_of_vc (c := mkCtx tyTree [(74, true, lendPg [[0], [0]] G74), (64, true, lendPg [[0], [0], [0]] G64)]) rfl tyOK (ctx_lend (callable Try.func74 rfl rfl) P74 (ctx_lend (callable Try.func64 rfl rfl) P64 (ctx_nil))) [[1], [0]] 2 Try.func41 rfl rfl (by decide) (by kernel_rfl) ?_
  rintro ds d ⟨N, a0, a1, r, rfl, hF, rfl⟩ hok
  clear hok
  refine ⟨rfl, ?_⟩
  show vc _ _ _ _ ⟨[(0, .dat (iN a0)), (1, .dat (iN a1))], []⟩ _
  unfold f41 at hF
  repeat' (first
    | ((with_reducible refine q0 _ _ ?_); clear Q q0 q1 q2)
    | ((with_reducible refine q1 _ _ _ _ ?_); clear Q q0 q1 q2)
    | ((with_reducible refine q2 _ _ _ ?_); clear Q q0 q1 q2)
    | ((with_reducible refine seq_op ?hx (fun Q q0 q1 q2 => ?_)); (case hx => exact rfl); conv => whnf)
    | ((with_reducible refine draw_op ?hx (fun Q q0 q1 q2 => ?_)); (case hx => exact rfl); conv => whnf)
    | ((with_reducible refine seq_op0 ?hx (fun Q q0 q1 q2 => ?_)); (case hx => exact rfl); conv => whnf)
    | ((with_reducible refine draw_op0 ?hx (fun Q q0 q1 q2 => ?_)); (case hx => exact rfl); conv => whnf)
    | ((with_reducible refine seq_off ?hx ?_); (case hx => exact rfl))
    | ((with_reducible refine seq_off0 ?hx ?_); (case hx => exact rfl))
    | ((with_reducible refine draw_off ?hx ?_); (case hx => exact rfl))
    | ((with_reducible refine draw_off0 ?hx ?_); (case hx => exact rfl))
    | ((with_reducible refine seq_id ?_); (first | ((refine seq_opK rfl ?hy (fun Q q0 q1 q2 => ?_)); (case hy => first | assumption | exact notT (by assumption) | exact rfl); conv => whnf) | ((refine seq_offK rfl ?hy ?_); (case hy => first | assumption | exact notF (by assumption) | exact rfl)) | ((refine seq_opK0 rfl ?hy (fun Q q0 q1 q2 => ?_)); (case hy => first | assumption | exact notT (by assumption) | exact rfl); conv => whnf) | ((refine seq_offK0 rfl ?hy ?_); (case hy => first | assumption | exact notF (by assumption) | exact rfl)) | (revert hF; (with_reducible refine seq_opF ?hx ?_ ?_); (case hx => exact rfl); (intro hc hF Q q0 q1 q2; conv => whnf); rotate_left; (intro hc hF); rotate_right) | (revert hF; (with_reducible refine seq_opN ?hx ?_ ?_); (case hx => exact rfl); (intro hc hF); rotate_left; (intro hc hF Q q0 q1 q2; conv => whnf); rotate_right) | (revert hF; (with_reducible refine seq_opF0 ?hx ?_ ?_); (case hx => exact rfl); (intro hc hF Q q0 q1 q2; conv => whnf); rotate_left; (intro hc hF); rotate_right) | (revert hF; (with_reducible refine seq_opN0 ?hx ?_ ?_); (case hx => exact rfl); (intro hc hF); rotate_left; (intro hc hF Q q0 q1 q2; conv => whnf); rotate_right)))
    | ((with_reducible refine cond_id ?_); (first | ((refine condKT rfl ?hy ?_); (case hy => first | assumption | exact notT (by assumption) | exact rfl)) | ((refine condKF rfl ?hy ?_); (case hy => first | assumption | exact notF (by assumption) | exact rfl)) | (revert hF; (with_reducible refine condF ?hx ?_ ?_); (case hx => exact rfl); all_goals (intro hc hF))))
    | ((with_reducible refine seq_nil ?_); (first | ((with_reducible refine hR _ ?_); clear R hR) | ((with_reducible refine hL _ ?_); clear L hL)))
    | ((with_reducible refine draw_nil ?_); (with_reducible refine hR _ _ ?hx ?_); (case hx => kernel_rfl); (first | clear R hR | clear hR))
    | ((with_reducible refine int_step ?_); conv => whnf)
    | ((with_reducible refine len_step ?_); conv => whnf)
    | ((with_reducible refine idx2 (by assumption) ?_); conv => whnf)
    | ((with_reducible refine idx3 (by assumption) ?_); conv => whnf)
    | with_reducible refine vc_block ?_
    | with_reducible refine vc_skip ?_
    | with_reducible refine vc_ret ?_
    | with_reducible refine vc_exit ?_
    | ((with_reducible refine vc_seqN [15, 14] ?hx ?_); (case hx => exact rfl))
    | (with_reducible refine vc_region (fun R hR => ?_))
    | ((with_reducible refine vc_draw ?hx (fun R hR => ?_)); (case hx => exact rfl))
    | fail
    | (revert hF; (refine Cf41_c15 rfl rfl ?_ ?_); (intro hF); rotate_left; (intro b501 hF; unfold f41_c15 at hF); rotate_right)
    | exact Zf41_c15 hF ⟨_, rfl, rfl, rfl, rfl⟩ (by first | exact rfl | assumption | omega)
    | (revert hF; (refine Cf41_c14 rfl rfl ?_ ?_); (intro hF); rotate_left; (intro b501' hF; unfold f41_c14 at hF); rotate_right)
    | exact Zf41_c14 hF ⟨_, rfl, rfl, rfl, rfl⟩ (by first | exact rfl | assumption | omega)
    | (revert hF; (refine Lf41_10 rfl ⟨_, rfl, rfl, rfl, rfl⟩ (by first | exact rfl | assumption | omega) ?_); intro n v33 b501' hF; unfold f41_10b at hF)
    | exact Mf41_10 hF ⟨_, rfl, rfl, rfl, rfl⟩ (by first | exact rfl | assumption | omega)
    | (revert hF; (refine Lf41_7 rfl ⟨_, rfl, rfl, rfl, rfl⟩ (by first | exact rfl | assumption | omega) ?_); intro n v29 b501 hF; unfold f41_7b at hF)
    | exact Mf41_7 hF ⟨_, rfl, rfl, rfl, rfl⟩ (by first | exact rfl | assumption | omega)
    | (revert hF; (with_reducible refine G64.lend ?hx ?_); (case hx => exact rfl); intro v hF; conv => whnf)
    | (revert hF; (with_reducible refine G74.lend ?hx ?_); (case hx => exact rfl); intro v hF; conv => whnf)
    | (revert hF; (refine mkS_nest (d := iN) ?_); intro x hF; conv => whnf)
    | ((refine take_step (d := iN) (by assumption) ?_); conv => whnf)
    | ((with_reducible have hG := setx_fact hF); clear hF; (refine put_row (d := iN) hG ?hn ?ho (fun q hl hF => ?_)); (case hn => first | exact rfl | assumption | omega); (case ho => (rintro p h; first | cases h; done | (cases h; rfl))); clear hG; conv => whnf)
    | ((refine nest_all (e := sl_iN) (d := iN) (fun _ => rfl) ?hn ?_); (case hn => first | exact rfl | assumption | omega); conv => whnf)
    | with_reducible refine k_seq_ret ?_
    | with_reducible refine k_seq_exit ?_
    | with_reducible refine k_blk ?_
    | with_reducible refine k_blk_ret ?_
    | with_reducible refine k_blk_here ?_
    | ((with_reducible refine k_blk_out ?hx ?_); (case hx => exact rfl))
    | with_reducible refine k_loop_ret ?_
    | with_reducible refine k_loop_exit ?_
    | (revert hF; (with_reducible refine idx1 ?hn ?_); (case hn => first | exact rfl | exact (List.length_map _) | assumption | omega | simp); intro x hx hF; conv => whnf)
    | ((with_reducible have hG := app_fact hF); clear hF; (first | ((refine app_row hG ?hn ?hs (fun q hF => ?_)); (case hn => first | exact rfl | assumption | omega); (case hs => exact rfl)) | ((refine app_nil (d := iN) hG ?hs (fun q hF => ?_)); (case hs => exact rfl)) | ((refine app_gen (d := iN) hG ?ho ?hn ?hs (fun q hF => ?_)); (case ho => exact rfl); (case hn => exact rfl); (case hs => exact rfl))); clear hG; conv => whnf)
    | ((refine row_all ?hn ?_); (case hn => first | exact rfl | (simp; done) | (simp; omega)); conv => whnf)
    | ((with_reducible refine le_step ?hn ?_); (case hn => first | exact rfl | assumption | omega); conv => whnf)
    | ((with_reducible have hG := setx_fact hF); clear hF; (refine setx_step hG ?hs (fun q hl hF => ?_)); (case hs => exact rfl); clear hG; conv => whnf)
    | ((refine ⟨?hx, ?_⟩); (case hx => exact ⟨rfl, Nat.le_of_ble_eq_true rfl, rfl⟩); conv => whnf)
    | ((with_reducible refine ex_step ?_); conv => whnf)
    | ((with_reducible have hG := chk_fact hF); clear hF; (refine ⟨?hx, ?_⟩); (case hx => (first | exact of_decide_eq_true hG.1 | exact hG.1)); have hF := hG.2; clear hG; conv => whnf)
    | ((with_reducible refine both_T ?hx ?_); (case hx => first | exact rfl | assumption | exact notT (by assumption)); conv => whnf)
    | ((with_reducible refine both_F ?hx ?_); (case hx => first | exact rfl | assumption | exact notF (by assumption)); conv => whnf)
    | (revert hF; (with_reducible refine ite_step ?_ ?_) <;> (intro hc hF; conv => whnf))
    | ((with_reducible refine vc_condT ?hx ?_); (case hx => exact rfl))
    | ((with_reducible refine vc_condF ?hx ?_); (case hx => exact rfl))
    | (show retD _ _ _ _ _ _; conv => whnf)
    | ((refine ⟨?hx, trivial⟩); (case hx => (cases hF; exact rfl)))
    | ((refine ⟨?hx, ?_⟩); (case hx => decide); conv => whnf)
    | ((with_reducible refine k_seq ?_))
    | (have hF : (none : Option _) = some _ := hF; cases hF))
end
end Go.Vc
namespace Go.Vc
open Go.Proofs
set_option linter.unusedVariables false
set_option linter.unnecessarySimpa false
set_option linter.unusedSimpArgs false
section
variable {c : Ctx} {p nid : Nat} {a b : Code} {st : St} {K : Ex → St → Prop}
/- f77: tusche/serial.Blind$1 -/
def f77 (N : Nat) (a0 : Int) (a1 : Int) : Option ((List Int) × (List Int)) :=
 some ([a0, a1], [a1, a0])
def G77 (ds : List D) (d : D) : Prop := ∃ (N : Nat) (a0 : Int) (a1 : Int) (r : (List Int) × (List Int)), ds = [iN a0, iN a1] ∧ f77 N a0 a1 = some r ∧ d = .tup [sl_iN r.1, sl_iN r.2]
theorem G77.step {N : Nat} {a0 : Int} {a1 : Int} {ρ : Type} {A : ((List Int) × (List Int)) → Option ρ} {q : ρ} {ds : List D} {K : D → Prop} (hd : ds = [iN a0, iN a1]) (h : ∀ r, A r = some q → K (.tup [sl_iN r.1, sl_iN r.2])) (hF : (f77 N a0 a1).bind A = some q) : ∃ d, G77 ds d ∧ K d := by
  obtain ⟨r, hr, hA⟩ := bind_some hF
  exact ⟨_, ⟨N, a0, a1, r, hd, hr, rfl⟩, h r hA⟩
set_option maxRecDepth 20000 in
set_option maxHeartbeats 4000000 in
theorem P77 : PureOK Try.prog 77 G77 := by
  refine pure_of_vc (c := mkCtx tyTree []) rfl tyOK (ctx_nil) [[1], [1]] 2 Try.func77 rfl rfl (by decide) (by kernel_rfl) ?_
  rintro ds d ⟨N, a0, a1, r, rfl, hF, rfl⟩ hok
  clear hok
  refine ⟨rfl, ?_⟩
  show vc _ _ _ _ ⟨[(0, .dat (iN a0)), (1, .dat (iN a1))], []⟩ _
  unfold f77 at hF
  repeat' (first
    | ((with_reducible refine q0 _ _ ?_); clear Q q0 q1 q2)
    | ((with_reducible refine q1 _ _ _ _ ?_); clear Q q0 q1 q2)
    | ((with_reducible refine q2 _ _ _ ?_); clear Q q0 q1 q2)
    | ((with_reducible refine seq_op ?hx (fun Q q0 q1 q2 => ?_)); (case hx => exact rfl); conv => whnf)
    | ((with_reducible refine seq_nil ?_); (first | ((with_reducible refine hR _ ?_); clear R hR) | ((with_reducible refine hL _ ?_); clear L hL)))
    | ((with_reducible refine int_step ?_); conv => whnf)
    | with_reducible refine vc_skip ?_
    | with_reducible refine vc_ret ?_
    | ((with_reducible refine vc_seqN [] ?hx ?_); (case hx => exact rfl))
    | (with_reducible refine vc_region (fun R hR => ?_))
    | fail
    | with_reducible refine k_seq_ret ?_
    | ((refine row_all ?hn ?_); (case hn => first | exact rfl | (simp; done) | (simp; omega)); conv => whnf)
    | ((with_reducible refine le_step ?hn ?_); (case hn => first | exact rfl | assumption | omega); conv => whnf)
    | ((refine ⟨?hx, ?_⟩); (case hx => exact ⟨rfl, Nat.le_of_ble_eq_true rfl, rfl⟩); conv => whnf)
    | ((with_reducible refine ex_step ?_); conv => whnf)
    | ((with_reducible refine both_T ?hx ?_); (case hx => first | exact rfl | assumption | exact notT (by assumption)); conv => whnf)
    | ((with_reducible refine both_F ?hx ?_); (case hx => first | exact rfl | assumption | exact notF (by assumption)); conv => whnf)
    | (revert hF; (with_reducible refine ite_step ?_ ?_) <;> (intro hc hF; conv => whnf))
    | (show retD _ _ _ _ _ _; conv => whnf)
    | ((refine ⟨?hx, trivial⟩); (case hx => (cases hF; exact rfl)))
    | ((refine ⟨?hx, ?_⟩); (case hx => decide); conv => whnf)
    | ((with_reducible refine k_seq ?_))
    | (have hF : (none : Option _) = some _ := hF; cases hF))
end
end Go.Vc
namespace Go.Vc
open Go.Proofs
set_option linter.unusedVariables false
set_option linter.unnecessarySimpa false
set_option linter.unusedSimpArgs false
section
variable {c : Ctx} {p nid : Nat} {a b : Code} {st : St} {K : Ex → St → Prop}
/- f108: cmp.isNaN[int] -/
def f108 (N : Nat) (a0 : Int) : Option (Bool) :=
 some (decide (¬ a0 = a0))
def G108 (ds : List D) (d : D) : Prop := ∃ (N : Nat) (a0 : Int) (r : Bool), ds = [iN a0] ∧ f108 N a0 = some r ∧ d = bN r
theorem G108.lend {N : Nat} {a0 : Int} {ρ : Type} {A : Bool → Option ρ} {q : ρ} {ds : List D} {K : D → Prop} (hd : ds = [iN a0]) (h : ∀ r, A r = some q → K (bN r)) (hF : (f108 N a0).bind A = some q) : ∃ d, (G108 ds d ∧ d.flatB = true) ∧ K d := by
  obtain ⟨r, hr, hA⟩ := bind_some hF
  exact ⟨_, ⟨⟨N, a0, r, hd, hr, rfl⟩, rfl⟩, h r hA⟩
theorem G108.step {N : Nat} {a0 : Int} {ρ : Type} {A : Bool → Option ρ} {q : ρ} {ds : List D} {K : D → Prop} (hd : ds = [iN a0]) (h : ∀ r, A r = some q → K (bN r)) (hF : (f108 N a0).bind A = some q) : ∃ d, G108 ds d ∧ K d := by
  obtain ⟨r, hr, hA⟩ := bind_some hF
  exact ⟨_, ⟨N, a0, r, hd, hr, rfl⟩, h r hA⟩
set_option maxRecDepth 20000 in
set_option maxHeartbeats 4000000 in
theorem P108 : PureOK Try.prog 108 G108 := by
  refine pure_of_vc (c := mkCtx tyTree []) rfl tyOK (ctx_nil) [[0]] 1 Try.func108 rfl rfl (by decide) (by kernel_rfl) ?_
  rintro ds d ⟨N, a0, r, rfl, hF, rfl⟩ hok
  clear hok
  refine ⟨rfl, ?_⟩
  show vc _ _ _ _ ⟨[(0, .dat (iN a0))], []⟩ _
  unfold f108 at hF
  repeat' (first
    | ((with_reducible refine q0 _ _ ?_); clear Q q0 q1 q2)
    | ((with_reducible refine q1 _ _ _ _ ?_); clear Q q0 q1 q2)
    | ((with_reducible refine q2 _ _ _ ?_); clear Q q0 q1 q2)
    | ((with_reducible refine seq_op ?hx (fun Q q0 q1 q2 => ?_)); (case hx => exact rfl); conv => whnf)
    | ((with_reducible refine seq_nil ?_); (first | ((with_reducible refine hR _ ?_); clear R hR) | ((with_reducible refine hL _ ?_); clear L hL)))
    | ((with_reducible refine int_step ?_); conv => whnf)
    | with_reducible refine vc_skip ?_
    | with_reducible refine vc_ret ?_
    | ((with_reducible refine vc_seqN [] ?hx ?_); (case hx => exact rfl))
    | (with_reducible refine vc_region (fun R hR => ?_))
    | fail
    | with_reducible refine k_seq_ret ?_
    | ((refine row_all ?hn ?_); (case hn => first | exact rfl | (simp; done) | (simp; omega)); conv => whnf)
    | ((with_reducible refine le_step ?hn ?_); (case hn => first | exact rfl | assumption | omega); conv => whnf)
    | ((refine ⟨?hx, ?_⟩); (case hx => exact ⟨rfl, Nat.le_of_ble_eq_true rfl, rfl⟩); conv => whnf)
    | ((with_reducible refine ex_step ?_); conv => whnf)
    | ((with_reducible refine both_T ?hx ?_); (case hx => first | exact rfl | assumption | exact notT (by assumption)); conv => whnf)
    | ((with_reducible refine both_F ?hx ?_); (case hx => first | exact rfl | assumption | exact notF (by assumption)); conv => whnf)
    | (revert hF; (with_reducible refine ite_step ?_ ?_) <;> (intro hc hF; conv => whnf))
    | (show retD _ _ _ _ _ _; conv => whnf)
    | ((refine ⟨?hx, trivial⟩); (case hx => (cases hF; exact rfl)))
    | ((refine ⟨?hx, ?_⟩); (case hx => decide); conv => whnf)
    | ((with_reducible refine k_seq ?_))
    | (have hF : (none : Option _) = some _ := hF; cases hF))
end
end Go.Vc
namespace Go.Vc
open Go.Proofs
set_option linter.unusedVariables false
set_option linter.unnecessarySimpa false
set_option linter.unusedSimpArgs false
section
variable {c : Ctx} {p nid : Nat} {a b : Code} {st : St} {K : Ex → St → Prop}
/- f97: cmp.Compare[int] -/
def f97 (N : Nat) (a0 : Int) (a1 : Int) : Option (Int) :=
 (f108 N a0).bind fun x1 =>
 (f108 N a1).bind fun x2 =>
 bif x1 then (bif x2 then (some ((0 : Int)))
 else (some ((-1 : Int))))
 else (bif x2 then (some ((1 : Int)))
 else (bif decide (a0 < a1) then (some ((-1 : Int)))
 else (bif decide (a1 < a0) then (some ((1 : Int)))
 else (some ((0 : Int))))))
def G97 (ds : List D) (d : D) : Prop := ∃ (N : Nat) (a0 : Int) (a1 : Int) (r : Int), ds = [iN a0, iN a1] ∧ f97 N a0 a1 = some r ∧ d = iN r
theorem G97.lend {N : Nat} {a0 : Int} {a1 : Int} {ρ : Type} {A : Int → Option ρ} {q : ρ} {ds : List D} {K : D → Prop} (hd : ds = [iN a0, iN a1]) (h : ∀ r, A r = some q → K (iN r)) (hF : (f97 N a0 a1).bind A = some q) : ∃ d, (G97 ds d ∧ d.flatB = true) ∧ K d := by
  obtain ⟨r, hr, hA⟩ := bind_some hF
  exact ⟨_, ⟨⟨N, a0, a1, r, hd, hr, rfl⟩, rfl⟩, h r hA⟩
theorem G97.step {N : Nat} {a0 : Int} {a1 : Int} {ρ : Type} {A : Int → Option ρ} {q : ρ} {ds : List D} {K : D → Prop} (hd : ds = [iN a0, iN a1]) (h : ∀ r, A r = some q → K (iN r)) (hF : (f97 N a0 a1).bind A = some q) : ∃ d, G97 ds d ∧ K d := by
  obtain ⟨r, hr, hA⟩ := bind_some hF
  exact ⟨_, ⟨N, a0, a1, r, hd, hr, rfl⟩, h r hA⟩
set_option maxRecDepth 20000 in
set_option maxHeartbeats 4000000 in
theorem P97 : PureOK Try.prog 97 G97 := by
  refine pure_of_vc (c := mkCtx tyTree [(108, true, lendPg [[0]] G108)]) rfl tyOK (ctx_lend (callable Try.func108 rfl rfl) P108 (ctx_nil)) [[0]] 2 Try.func97 rfl rfl (by decide) (by kernel_rfl) ?_
  rintro ds d ⟨N, a0, a1, r, rfl, hF, rfl⟩ hok
  clear hok
  refine ⟨rfl, ?_⟩
  show vc _ _ _ _ ⟨[(0, .dat (iN a0)), (1, .dat (iN a1))], []⟩ _
  unfold f97 at hF
  repeat' (first
    | ((with_reducible refine q0 _ _ ?_); clear Q q0 q1 q2)
    | ((with_reducible refine q1 _ _ _ _ ?_); clear Q q0 q1 q2)
    | ((with_reducible refine q2 _ _ _ ?_); clear Q q0 q1 q2)
    | ((with_reducible refine seq_op ?hx (fun Q q0 q1 q2 => ?_)); (case hx => exact rfl); conv => whnf)
    | ((with_reducible refine cond_id ?_); (first | ((refine condKT rfl ?hy ?_); (case hy => first | assumption | exact notT (by assumption) | exact rfl)) | ((refine condKF rfl ?hy ?_); (case hy => first | assumption | exact notF (by assumption) | exact rfl)) | (revert hF; (with_reducible refine condF ?hx ?_ ?_); (case hx => exact rfl); all_goals (intro hc hF))))
    | ((with_reducible refine seq_nil ?_); (first | ((with_reducible refine hR _ ?_); clear R hR) | ((with_reducible refine hL _ ?_); clear L hL)))
    | ((with_reducible refine int_step ?_); conv => whnf)
    | with_reducible refine vc_block ?_
    | with_reducible refine vc_skip ?_
    | with_reducible refine vc_ret ?_
    | with_reducible refine vc_exit ?_
    | ((with_reducible refine vc_seqN [] ?hx ?_); (case hx => exact rfl))
    | (with_reducible refine vc_region (fun R hR => ?_))
    | fail
    | (revert hF; (with_reducible refine G108.lend ?hx ?_); (case hx => exact rfl); intro v hF; conv => whnf)
    | with_reducible refine k_seq_ret ?_
    | with_reducible refine k_seq_exit ?_
    | with_reducible refine k_blk ?_
    | with_reducible refine k_blk_ret ?_
    | with_reducible refine k_blk_here ?_
    | ((with_reducible refine k_blk_out ?hx ?_); (case hx => exact rfl))
    | ((refine row_all ?hn ?_); (case hn => first | exact rfl | (simp; done) | (simp; omega)); conv => whnf)
    | ((with_reducible refine le_step ?hn ?_); (case hn => first | exact rfl | assumption | omega); conv => whnf)
    | ((refine ⟨?hx, ?_⟩); (case hx => exact ⟨rfl, Nat.le_of_ble_eq_true rfl, rfl⟩); conv => whnf)
    | ((with_reducible refine ex_step ?_); conv => whnf)
    | ((with_reducible refine both_T ?hx ?_); (case hx => first | exact rfl | assumption | exact notT (by assumption)); conv => whnf)
    | ((with_reducible refine both_F ?hx ?_); (case hx => first | exact rfl | assumption | exact notF (by assumption)); conv => whnf)
    | (revert hF; (with_reducible refine ite_step ?_ ?_) <;> (intro hc hF; conv => whnf))
    | ((with_reducible refine vc_condT ?hx ?_); (case hx => exact rfl))
    | ((with_reducible refine vc_condF ?hx ?_); (case hx => exact rfl))
    | (show retD _ _ _ _ _ _; conv => whnf)
    | ((refine ⟨?hx, trivial⟩); (case hx => (cases hF; exact rfl)))
    | ((refine ⟨?hx, ?_⟩); (case hx => decide); conv => whnf)
    | ((with_reducible refine k_seq ?_))
    | (have hF : (none : Option _) = some _ := hF; cases hF))
end
end Go.Vc

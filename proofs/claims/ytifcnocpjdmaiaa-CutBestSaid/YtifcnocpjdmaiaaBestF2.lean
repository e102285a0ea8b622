/-
  A library for proofs about Go functions by symbolic evaluation, and plain Lean functions that the walked Go functions compute (written by a program of this claim).
-/
import Derived.Test.YtifcnocpjdmaiaaBestF1
namespace Go.Vc
open Go.Proofs
set_option linter.unusedVariables false
set_option linter.unnecessarySimpa false
set_option linter.unusedSimpArgs false
section
variable {c : Ctx} {p nid : Nat} {a b : Code} {st : St} {K : Ex → St → Prop}
/- f31: tusche/cut.Lay -/
def f31_c10 (a0 : Int) (a1 : Int) (N : Nat) (b101 : List Choice) (b703_2 : List Label) : Option (Layout × Int) :=
 (f68 N (Label.mk (0 : Int) (0 : Int) a0 a1) a0 a1 b101 b703_2).bind fun x3 =>
 some ((Layout.mk a0 a1 x3), (0 : Int))
def Sf31_c10 : Ann := ⟨[0, 1, 6, 10, 11], [0, 404, 703, 800, 90500, 404000101], [(.cell 703 2, 90500, 50, 4)], []⟩
def Vf31_c10 (a0 : Int) (a1 : Int) (b101 : List Choice) (b703_2 : List Label) : List SV := [.dat (iN a0), .dat (iN a1), .ptr 0 0, .ptr 703 0, .ptr 800 0]
def Bf31_c10 (a0 : Int) (a1 : Int) (b101 : List Choice) (b703_2 : List Label) : List Blk := [.box [.dat (iN (0 : Int)), .dat (iN (0 : Int)), .nil], .box [.ptr 404000101 0], .box [.dat (iN a0), .dat (iN a1), .rs 90500 (List.length b703_2)], .box [.fn 68 [] [.ptr 404 0, .ptr 703 0, .ptr 800 0]], .row 50 4 (List.map Label.d b703_2), .arr (flatC Choice.d b101)]
def Yf31_c10 (a0 : Int) (a1 : Int) (b101 : List Choice) (y : (List Label)) : List SV := Vf31_c10 a0 a1 b101 y
def Xf31_c10 (a0 : Int) (a1 : Int) (b101 : List Choice) (y : (List Label)) : List Blk := Bf31_c10 a0 a1 b101 y
def Jf31_c10 (a0 : Int) (a1 : Int) (N : Nat) (b101 : List Choice) (r : Layout × Int) (y : (List Label)) : Prop := f31_c10 a0 a1 N b101 y = some r
def V2f31_c10 (a0 : Int) (a1 : Int) (b101 : List Choice) (b703_2 : List Label) (m0 : Nat) : List SV := [.dat (iN a0), .dat (iN a1), .ptr 0 0, .ptr 703 0, .ptr 800 0]
def B2f31_c10 (a0 : Int) (a1 : Int) (b101 : List Choice) (b703_2 : List Label) (m0 : Nat) : List Blk := [.box [.dat (iN (0 : Int)), .dat (iN (0 : Int)), .nil], .box [.ptr 404000101 0], .box [.dat (iN a0), .dat (iN a1), .rs 90500 m0], .box [.fn 68 [] [.ptr 404 0, .ptr 703 0, .ptr 800 0]], .row 50 4 (List.map Label.d b703_2), .arr (flatC Choice.d b101)]
theorem Cf31_c10 {r : Layout × Int} {a0 : Int} {a1 : Int} {N : Nat} {b101 : List Choice} {g : _ → Option (Layout × Int)} (hn : Nat.beq (nid * 1000 + firstRegion b) 10 = true) (hz : Sf31_c10.ok p = true) (h : g (f31_c10 a0 a1 N b101) = some r → vc c p nid a st (KHead Sf31_c10 (Yf31_c10 a0 a1 b101) (Xf31_c10 a0 a1 b101) (Jf31_c10 a0 a1 N b101 r) K)) (h2 : ∀ (b703_2 : List Label), f31_c10 a0 a1 N b101 b703_2 = some r → vc c p nid b (St.mk' Sf31_c10 (Vf31_c10 a0 a1 b101 b703_2) (Bf31_c10 a0 a1 b101 b703_2)) K) (hF : joinK (f31_c10 a0 a1 N b101) g = some r) : vc c p nid (.seq a b) st K :=
  vc_cut Sf31_c10 (Yf31_c10 a0 a1 b101) (Xf31_c10 a0 a1 b101) (Jf31_c10 a0 a1 N b101 r) hz (h hF) fun y hy => h2 y hy
theorem Zf31_c10 {r : Layout × Int} {a0 : Int} {a1 : Int} {N : Nat} {b101 : List Choice} {b703_2 : List Label} {m0 : Nat} (hF : f31_c10 a0 a1 N b101 b703_2 = some r) (h0 : AtH Sf31_c10 st (V2f31_c10 a0 a1 b101 b703_2 m0) (B2f31_c10 a0 a1 b101 b703_2 m0)) (em0 : m0 = List.length b703_2) : KHead Sf31_c10 (Yf31_c10 a0 a1 b101) (Xf31_c10 a0 a1 b101) (Jf31_c10 a0 a1 N b101 r) K .normal st := by
  subst em0; exact khead (I := (Jf31_c10 a0 a1 N b101 r)) (x := (b703_2)) hF h0
def f31_i403_c21 (a0 : Int) (a1 : Int) (N : Nat) (b101 : List Choice) : Option (Layout × Int) :=
 (chkI 13 a0).bind fun _ =>
 (chkI 13 a1).bind fun _ =>
 (ixN b101 (Int.toNat a0 * 13 + Int.toNat a1)).bind fun x2 =>
 bif decide ((10 : Int) < x2.labels) then (some ((Layout.mk (0 : Int) (0 : Int) []), (16 : Int)))
 else (joinK (f31_c10 a0 a1 N b101) fun k0 =>
 k0 [])
def Sf31_i403_c21 : Ann := ⟨[7], [0, 404000101], [], []⟩
def Vf31_i403_c21 (b101 : List Choice) : List SV := [.ptr 404000101 0]
def Bf31_i403_c21 (b101 : List Choice) : List Blk := [.box [.dat (iN (0 : Int)), .dat (iN (0 : Int)), .nil], .arr (flatC Choice.d b101)]
def Yf31_i403_c21 (y : (List Choice)) : List SV := Vf31_i403_c21 y
def Xf31_i403_c21 (y : (List Choice)) : List Blk := Bf31_i403_c21 y
def Jf31_i403_c21 (a0 : Int) (a1 : Int) (N : Nat) (r : Layout × Int) (y : (List Choice)) : Prop := f31_i403_c21 a0 a1 N y = some r
theorem Cf31_i403_c21 {r : Layout × Int} {a0 : Int} {a1 : Int} {N : Nat} {g : _ → Option (Layout × Int)} (hn : Nat.beq (nid * 1000 + firstRegion b) 404000000021 = true) (hz : Sf31_i403_c21.ok p = true) (h : g (f31_i403_c21 a0 a1 N) = some r → vc c p nid a st (KHead Sf31_i403_c21 Yf31_i403_c21 Xf31_i403_c21 (Jf31_i403_c21 a0 a1 N r) K)) (h2 : ∀ (b101 : List Choice), f31_i403_c21 a0 a1 N b101 = some r → vc c p nid b (St.mk' Sf31_i403_c21 (Vf31_i403_c21 b101) (Bf31_i403_c21 b101)) K) (hF : joinK (f31_i403_c21 a0 a1 N) g = some r) : vc c p nid (.seq a b) st K :=
  vc_cut Sf31_i403_c21 Yf31_i403_c21 Xf31_i403_c21 (Jf31_i403_c21 a0 a1 N r) hz (h hF) fun y hy => h2 y hy
theorem Zf31_i403_c21 {r : Layout × Int} {a0 : Int} {a1 : Int} {N : Nat} {b101 : List Choice} (hF : f31_i403_c21 a0 a1 N b101 = some r) (h0 : AtH Sf31_i403_c21 st (Vf31_i403_c21 b101) (Bf31_i403_c21 b101)) : KHead Sf31_i403_c21 Yf31_i403_c21 Xf31_i403_c21 (Jf31_i403_c21 a0 a1 N r) K .normal st := by
  exact khead (I := (Jf31_i403_c21 a0 a1 N r)) (x := (b101)) hF h0
def f31_i403_c4 (a0 : Int) (a1 : Int) (a2 : List Kind) (v8 : Int) (r3 : Int → (List Choice) → Option (Layout × Int)) (b101' : List Choice) : Option (Layout × Int) :=
 r3 (W (v8 + (1 : Int))) (b101')
def Sf31_i403_c4 : Ann := ⟨[0, 1, 2, 7, 8], [0, 404000101], [], []⟩
def Vf31_i403_c4 (a0 : Int) (a1 : Int) (a2 : List Kind) (v8 : Int) (b101' : List Choice) : List SV := [.dat (iN a0), .dat (iN a1), .dat (sl_Kind a2), .ptr 404000101 0, .dat (iN v8)]
def Bf31_i403_c4 (a0 : Int) (a1 : Int) (a2 : List Kind) (v8 : Int) (b101' : List Choice) : List Blk := [.box [.dat (iN (0 : Int)), .dat (iN (0 : Int)), .nil], .arr (flatC Choice.d (b101'))]
def Yf31_i403_c4 (a0 : Int) (a1 : Int) (a2 : List Kind) (v8 : Int) (y : (List Choice)) : List SV := Vf31_i403_c4 a0 a1 a2 v8 y
def Xf31_i403_c4 (a0 : Int) (a1 : Int) (a2 : List Kind) (v8 : Int) (y : (List Choice)) : List Blk := Bf31_i403_c4 a0 a1 a2 v8 y
def Jf31_i403_c4 (a0 : Int) (a1 : Int) (a2 : List Kind) (v8 : Int) (r3 : Int → (List Choice) → Option (Layout × Int)) (r : Layout × Int) (y : (List Choice)) : Prop := f31_i403_c4 a0 a1 a2 v8 r3 y = some r
theorem Cf31_i403_c4 {r : Layout × Int} {a0 : Int} {a1 : Int} {a2 : List Kind} {v8 : Int} {r3 : Int → (List Choice) → Option (Layout × Int)} {g : _ → Option (Layout × Int)} (hn : Nat.beq (nid * 1000 + firstRegion b) 404000000004 = true) (hz : Sf31_i403_c4.ok p = true) (h : g (f31_i403_c4 a0 a1 a2 v8 r3) = some r → vc c p nid a st (KHead Sf31_i403_c4 (Yf31_i403_c4 a0 a1 a2 v8) (Xf31_i403_c4 a0 a1 a2 v8) (Jf31_i403_c4 a0 a1 a2 v8 r3 r) K)) (h2 : ∀ (b101' : List Choice), f31_i403_c4 a0 a1 a2 v8 r3 b101' = some r → vc c p nid b (St.mk' Sf31_i403_c4 (Vf31_i403_c4 a0 a1 a2 v8 b101') (Bf31_i403_c4 a0 a1 a2 v8 b101')) K) (hF : joinK (f31_i403_c4 a0 a1 a2 v8 r3) g = some r) : vc c p nid (.seq a b) st K :=
  vc_cut Sf31_i403_c4 (Yf31_i403_c4 a0 a1 a2 v8) (Xf31_i403_c4 a0 a1 a2 v8) (Jf31_i403_c4 a0 a1 a2 v8 r3 r) hz (h hF) fun y hy => h2 y hy
theorem Zf31_i403_c4 {r : Layout × Int} {a0 : Int} {a1 : Int} {a2 : List Kind} {v8 : Int} {r3 : Int → (List Choice) → Option (Layout × Int)} {b101' : List Choice} (hF : f31_i403_c4 a0 a1 a2 v8 r3 b101' = some r) (h0 : AtH Sf31_i403_c4 st (Vf31_i403_c4 a0 a1 a2 v8 b101') (Bf31_i403_c4 a0 a1 a2 v8 b101')) : KHead Sf31_i403_c4 (Yf31_i403_c4 a0 a1 a2 v8) (Xf31_i403_c4 a0 a1 a2 v8) (Jf31_i403_c4 a0 a1 a2 v8 r3 r) K .normal st := by
  exact khead (I := (Jf31_i403_c4 a0 a1 a2 v8 r3 r)) (x := (b101')) hF h0
def f31_i403_c7 (a0 : Int) (a1 : Int) (a2 : List Kind) (v8 : Int) (v9 : Int) (r6 : Int → (List Choice) → Option (Layout × Int)) (b101'' : List Choice) : Option (Layout × Int) :=
 r6 (W (v9 + (1 : Int))) (b101'')
def Sf31_i403_c7 : Ann := ⟨[0, 1, 2, 7, 8, 9], [0, 404000101], [], []⟩
def Vf31_i403_c7 (a0 : Int) (a1 : Int) (a2 : List Kind) (v8 : Int) (v9 : Int) (b101'' : List Choice) : List SV := [.dat (iN a0), .dat (iN a1), .dat (sl_Kind a2), .ptr 404000101 0, .dat (iN v8), .dat (iN v9)]
def Bf31_i403_c7 (a0 : Int) (a1 : Int) (a2 : List Kind) (v8 : Int) (v9 : Int) (b101'' : List Choice) : List Blk := [.box [.dat (iN (0 : Int)), .dat (iN (0 : Int)), .nil], .arr (flatC Choice.d (b101''))]
def Yf31_i403_c7 (a0 : Int) (a1 : Int) (a2 : List Kind) (v8 : Int) (v9 : Int) (y : (List Choice)) : List SV := Vf31_i403_c7 a0 a1 a2 v8 v9 y
def Xf31_i403_c7 (a0 : Int) (a1 : Int) (a2 : List Kind) (v8 : Int) (v9 : Int) (y : (List Choice)) : List Blk := Bf31_i403_c7 a0 a1 a2 v8 v9 y
def Jf31_i403_c7 (a0 : Int) (a1 : Int) (a2 : List Kind) (v8 : Int) (v9 : Int) (r6 : Int → (List Choice) → Option (Layout × Int)) (r : Layout × Int) (y : (List Choice)) : Prop := f31_i403_c7 a0 a1 a2 v8 v9 r6 y = some r
theorem Cf31_i403_c7 {r : Layout × Int} {a0 : Int} {a1 : Int} {a2 : List Kind} {v8 : Int} {v9 : Int} {r6 : Int → (List Choice) → Option (Layout × Int)} {g : _ → Option (Layout × Int)} (hn : Nat.beq (nid * 1000 + firstRegion b) 404000000007 = true) (hz : Sf31_i403_c7.ok p = true) (h : g (f31_i403_c7 a0 a1 a2 v8 v9 r6) = some r → vc c p nid a st (KHead Sf31_i403_c7 (Yf31_i403_c7 a0 a1 a2 v8 v9) (Xf31_i403_c7 a0 a1 a2 v8 v9) (Jf31_i403_c7 a0 a1 a2 v8 v9 r6 r) K)) (h2 : ∀ (b101'' : List Choice), f31_i403_c7 a0 a1 a2 v8 v9 r6 b101'' = some r → vc c p nid b (St.mk' Sf31_i403_c7 (Vf31_i403_c7 a0 a1 a2 v8 v9 b101'') (Bf31_i403_c7 a0 a1 a2 v8 v9 b101'')) K) (hF : joinK (f31_i403_c7 a0 a1 a2 v8 v9 r6) g = some r) : vc c p nid (.seq a b) st K :=
  vc_cut Sf31_i403_c7 (Yf31_i403_c7 a0 a1 a2 v8 v9) (Xf31_i403_c7 a0 a1 a2 v8 v9) (Jf31_i403_c7 a0 a1 a2 v8 v9 r6 r) hz (h hF) fun y hy => h2 y hy
theorem Zf31_i403_c7 {r : Layout × Int} {a0 : Int} {a1 : Int} {a2 : List Kind} {v8 : Int} {v9 : Int} {r6 : Int → (List Choice) → Option (Layout × Int)} {b101'' : List Choice} (hF : f31_i403_c7 a0 a1 a2 v8 v9 r6 b101'' = some r) (h0 : AtH Sf31_i403_c7 st (Vf31_i403_c7 a0 a1 a2 v8 v9 b101'') (Bf31_i403_c7 a0 a1 a2 v8 v9 b101'')) : KHead Sf31_i403_c7 (Yf31_i403_c7 a0 a1 a2 v8 v9) (Xf31_i403_c7 a0 a1 a2 v8 v9) (Jf31_i403_c7 a0 a1 a2 v8 v9 r6 r) K .normal st := by
  exact khead (I := (Jf31_i403_c7 a0 a1 a2 v8 v9 r6 r)) (x := (b101'')) hF h0
def f31_i403_18b (r18 : Int → (List Choice) → Option (Layout × Int)) (a0 : Int) (a1 : Int) (a2 : List Kind) (N : Nat) (v8 : Int) (v9 : Int) (k3 : (List Choice) → Option (Layout × Int)) (v15 : Int) (b101'''' : List Choice) : Option (Layout × Int) :=
 bif decide (v15 < v9) then ((chkI 13 v8).bind fun _ =>
 (chkI 13 v15).bind fun _ =>
 (ixN (b101'''') (Int.toNat v8 * 13 + Int.toNat v15)).bind fun x4 =>
 (chkI 13 v8).bind fun _ =>
 (chkI 13 (W (v9 - v15))).bind fun _ =>
 (ixN (b101'''') (Int.toNat v8 * 13 + Int.toNat (W (v9 - v15)))).bind fun x5 =>
 (ixN (b101'''') (Int.toNat v8 * 13 + Int.toNat v9)).bind fun x6 =>
 (f75 N (Choice.mk (W (x4.worth + x5.worth)) (W (x4.labels + x5.labels)) false (Cut.mk false v15)) x6).bind fun x7 =>
 bif x7 then ((setN (b101'''') (Int.toNat v8 * 13 + Int.toNat v9) (Choice.mk (W (x4.worth + x5.worth)) (W (x4.labels + x5.labels)) false (Cut.mk false v15))).bind fun x8 =>
 r18 (W (v15 + (1 : Int))) x8)
 else (r18 (W (v15 + (1 : Int))) (b101'''')))
 else (k3 (b101''''))
def f31_i403_18 (a0 : Int) (a1 : Int) (a2 : List Kind) (N : Nat) (v8 : Int) (v9 : Int) (k3 : (List Choice) → Option (Layout × Int)) : Nat → Int → (List Choice) → Option (Layout × Int)
  | 0, _, _ => none
  | n + 1, v15, b101'''' => f31_i403_18b (f31_i403_18 a0 a1 a2 N v8 v9 k3 n) a0 a1 a2 N v8 v9 k3 v15 b101''''
def Sf31_i403_18 : Ann := ⟨[0, 1, 2, 7, 8, 9, 13, 15], [0, 404000101, 404000806], [], []⟩
def Vf31_i403_18 (a0 : Int) (a1 : Int) (a2 : List Kind) (v8 : Int) (v9 : Int) (v15 : Int) (b101'''' : List Choice) : List SV := [.dat (iN a0), .dat (iN a1), .dat (sl_Kind a2), .ptr 404000101 0, .dat (iN v8), .dat (iN v9), .fn 74 [] [.ptr 404000806 0], .dat (iN v15)]
def Bf31_i403_18 (a0 : Int) (a1 : Int) (a2 : List Kind) (v8 : Int) (v9 : Int) (v15 : Int) (b101'''' : List Choice) : List Blk := [.box [.dat (iN (0 : Int)), .dat (iN (0 : Int)), .nil], .arr (flatC Choice.d (b101'''')), .box [.ptr 404000101 (0 + Int.toNat v8 * 65 + Int.toNat v9 * 5)]]
def Yf31_i403_18 (a0 : Int) (a1 : Int) (a2 : List Kind) (v8 : Int) (v9 : Int) (y : Nat × Int × (List Choice)) : List SV := Vf31_i403_18 a0 a1 a2 v8 v9 y.2.1 y.2.2
def Xf31_i403_18 (a0 : Int) (a1 : Int) (a2 : List Kind) (v8 : Int) (v9 : Int) (y : Nat × Int × (List Choice)) : List Blk := Bf31_i403_18 a0 a1 a2 v8 v9 y.2.1 y.2.2
def Jf31_i403_18 (a0 : Int) (a1 : Int) (a2 : List Kind) (N : Nat) (v8 : Int) (v9 : Int) (k3 : (List Choice) → Option (Layout × Int)) (r : Layout × Int) (y : Nat × Int × (List Choice)) : Prop := f31_i403_18 a0 a1 a2 N v8 v9 k3 y.1 y.2.1 y.2.2 = some r
theorem Lf31_i403_18 {r : Layout × Int} {a0 : Int} {a1 : Int} {a2 : List Kind} {N : Nat} {v8 : Int} {v9 : Int} {k3 : (List Choice) → Option (Layout × Int)} {fu : Nat} {v15 : Int} {b101'''' : List Choice} (hz : Sf31_i403_18.ok p = true) (h0 : AtH Sf31_i403_18 st (Vf31_i403_18 a0 a1 a2 v8 v9 v15 b101'''') (Bf31_i403_18 a0 a1 a2 v8 v9 v15 b101'''')) (h : ∀ (n : Nat) (v15 : Int) (b101'''' : List Choice), f31_i403_18b (f31_i403_18 a0 a1 a2 N v8 v9 k3 n) a0 a1 a2 N v8 v9 k3 v15 b101'''' = some r → vc c p nid a (St.mk' Sf31_i403_18 (Vf31_i403_18 a0 a1 a2 v8 v9 v15 b101'''') (Bf31_i403_18 a0 a1 a2 v8 v9 v15 b101'''')) (Kloop Sf31_i403_18 (Yf31_i403_18 a0 a1 a2 v8 v9) (Xf31_i403_18 a0 a1 a2 v8 v9) (Jf31_i403_18 a0 a1 a2 N v8 v9 k3 r) Prod.fst (n + 1, v15, b101'''') K)) (hF : f31_i403_18 a0 a1 a2 N v8 v9 k3 fu v15 b101'''' = some r) : vc c p nid (.loop a) st K := by
  refine vc_loop Sf31_i403_18 (Yf31_i403_18 a0 a1 a2 v8 v9) (Xf31_i403_18 a0 a1 a2 v8 v9) (Jf31_i403_18 a0 a1 a2 N v8 v9 k3 r) Prod.fst hz (kheadL (x := (fu, v15, b101'''')) hF h0) ?_
  rintro ⟨_ | n, v15, b101''''⟩ hI
  · cases hI
  · exact h n v15 b101'''' hI
theorem Mf31_i403_18 {r : Layout × Int} {a0 : Int} {a1 : Int} {a2 : List Kind} {N : Nat} {v8 : Int} {v9 : Int} {k3 : (List Choice) → Option (Layout × Int)} {n : Nat} {v15 : Int} {b101'''' : List Choice} {v15_ : Int} {b101''''_ : List Choice} (hF : f31_i403_18 a0 a1 a2 N v8 v9 k3 n v15 b101'''' = some r) (h0 : AtH Sf31_i403_18 st (Vf31_i403_18 a0 a1 a2 v8 v9 v15 b101'''') (Bf31_i403_18 a0 a1 a2 v8 v9 v15 b101'''')) : Kloop Sf31_i403_18 (Yf31_i403_18 a0 a1 a2 v8 v9) (Xf31_i403_18 a0 a1 a2 v8 v9) (Jf31_i403_18 a0 a1 a2 N v8 v9 k3 r) Prod.fst (n + 1, v15_, b101''''_) K .normal st := by
  exact kback (y := (n, v15, b101'''')) hF (Nat.lt_succ_self n) h0
def f31_i403_c17 (a0 : Int) (a1 : Int) (a2 : List Kind) (N : Nat) (v8 : Int) (v9 : Int) (k3 : (List Choice) → Option (Layout × Int)) (b101''' : List Choice) : Option (Layout × Int) :=
 f31_i403_18 a0 a1 a2 N v8 v9 k3 N (1 : Int) (b101''')
def Sf31_i403_c17 : Ann := ⟨[0, 1, 2, 7, 8, 9, 13], [0, 404000101, 404000806], [], []⟩
def Vf31_i403_c17 (a0 : Int) (a1 : Int) (a2 : List Kind) (v8 : Int) (v9 : Int) (b101''' : List Choice) : List SV := [.dat (iN a0), .dat (iN a1), .dat (sl_Kind a2), .ptr 404000101 0, .dat (iN v8), .dat (iN v9), .fn 74 [] [.ptr 404000806 0]]
def Bf31_i403_c17 (a0 : Int) (a1 : Int) (a2 : List Kind) (v8 : Int) (v9 : Int) (b101''' : List Choice) : List Blk := [.box [.dat (iN (0 : Int)), .dat (iN (0 : Int)), .nil], .arr (flatC Choice.d (b101''')), .box [.ptr 404000101 (0 + Int.toNat v8 * 65 + Int.toNat v9 * 5)]]
def Yf31_i403_c17 (a0 : Int) (a1 : Int) (a2 : List Kind) (v8 : Int) (v9 : Int) (y : (List Choice)) : List SV := Vf31_i403_c17 a0 a1 a2 v8 v9 y
def Xf31_i403_c17 (a0 : Int) (a1 : Int) (a2 : List Kind) (v8 : Int) (v9 : Int) (y : (List Choice)) : List Blk := Bf31_i403_c17 a0 a1 a2 v8 v9 y
def Jf31_i403_c17 (a0 : Int) (a1 : Int) (a2 : List Kind) (N : Nat) (v8 : Int) (v9 : Int) (k3 : (List Choice) → Option (Layout × Int)) (r : Layout × Int) (y : (List Choice)) : Prop := f31_i403_c17 a0 a1 a2 N v8 v9 k3 y = some r
theorem Cf31_i403_c17 {r : Layout × Int} {a0 : Int} {a1 : Int} {a2 : List Kind} {N : Nat} {v8 : Int} {v9 : Int} {k3 : (List Choice) → Option (Layout × Int)} {g : _ → Option (Layout × Int)} (hn : Nat.beq (nid * 1000 + firstRegion b) 404000000017 = true) (hz : Sf31_i403_c17.ok p = true) (h : g (f31_i403_c17 a0 a1 a2 N v8 v9 k3) = some r → vc c p nid a st (KHead Sf31_i403_c17 (Yf31_i403_c17 a0 a1 a2 v8 v9) (Xf31_i403_c17 a0 a1 a2 v8 v9) (Jf31_i403_c17 a0 a1 a2 N v8 v9 k3 r) K)) (h2 : ∀ (b101''' : List Choice), f31_i403_c17 a0 a1 a2 N v8 v9 k3 b101''' = some r → vc c p nid b (St.mk' Sf31_i403_c17 (Vf31_i403_c17 a0 a1 a2 v8 v9 b101''') (Bf31_i403_c17 a0 a1 a2 v8 v9 b101''')) K) (hF : joinK (f31_i403_c17 a0 a1 a2 N v8 v9 k3) g = some r) : vc c p nid (.seq a b) st K :=
  vc_cut Sf31_i403_c17 (Yf31_i403_c17 a0 a1 a2 v8 v9) (Xf31_i403_c17 a0 a1 a2 v8 v9) (Jf31_i403_c17 a0 a1 a2 N v8 v9 k3 r) hz (h hF) fun y hy => h2 y hy
theorem Zf31_i403_c17 {r : Layout × Int} {a0 : Int} {a1 : Int} {a2 : List Kind} {N : Nat} {v8 : Int} {v9 : Int} {k3 : (List Choice) → Option (Layout × Int)} {b101''' : List Choice} (hF : f31_i403_c17 a0 a1 a2 N v8 v9 k3 b101''' = some r) (h0 : AtH Sf31_i403_c17 st (Vf31_i403_c17 a0 a1 a2 v8 v9 b101''') (Bf31_i403_c17 a0 a1 a2 v8 v9 b101''')) : KHead Sf31_i403_c17 (Yf31_i403_c17 a0 a1 a2 v8 v9) (Xf31_i403_c17 a0 a1 a2 v8 v9) (Jf31_i403_c17 a0 a1 a2 N v8 v9 k3 r) K .normal st := by
  exact khead (I := (Jf31_i403_c17 a0 a1 a2 N v8 v9 k3 r)) (x := (b101''')) hF h0
def f31_i403_14b (r14 : Int → (List Choice) → Option (Layout × Int)) (a0 : Int) (a1 : Int) (a2 : List Kind) (N : Nat) (v8 : Int) (v9 : Int) (k4 : (List Choice) → Option (Layout × Int)) (v14 : Int) (b101''' : List Choice) : Option (Layout × Int) :=
 bif decide (v14 < v8) then ((chkI 13 v14).bind fun _ =>
 (chkI 13 v9).bind fun _ =>
 (ixN (b101''') (Int.toNat v14 * 13 + Int.toNat v9)).bind fun x9 =>
 (chkI 13 (W (v8 - v14))).bind fun _ =>
 (chkI 13 v9).bind fun _ =>
 (ixN (b101''') (Int.toNat (W (v8 - v14)) * 13 + Int.toNat v9)).bind fun x10 =>
 (ixN (b101''') (Int.toNat v8 * 13 + Int.toNat v9)).bind fun x11 =>
 (f75 N (Choice.mk (W (x9.worth + x10.worth)) (W (x9.labels + x10.labels)) false (Cut.mk true v14)) x11).bind fun x12 =>
 bif x12 then ((setN (b101''') (Int.toNat v8 * 13 + Int.toNat v9) (Choice.mk (W (x9.worth + x10.worth)) (W (x9.labels + x10.labels)) false (Cut.mk true v14))).bind fun x13 =>
 r14 (W (v14 + (1 : Int))) x13)
 else (r14 (W (v14 + (1 : Int))) (b101''')))
 else (k4 (b101'''))
def f31_i403_14 (a0 : Int) (a1 : Int) (a2 : List Kind) (N : Nat) (v8 : Int) (v9 : Int) (k4 : (List Choice) → Option (Layout × Int)) : Nat → Int → (List Choice) → Option (Layout × Int)
  | 0, _, _ => none
  | n + 1, v14, b101''' => f31_i403_14b (f31_i403_14 a0 a1 a2 N v8 v9 k4 n) a0 a1 a2 N v8 v9 k4 v14 b101'''
def Sf31_i403_14 : Ann := ⟨[0, 1, 2, 7, 8, 9, 13, 14], [0, 404000101, 404000806], [], []⟩
def Vf31_i403_14 (a0 : Int) (a1 : Int) (a2 : List Kind) (v8 : Int) (v9 : Int) (v14 : Int) (b101''' : List Choice) : List SV := [.dat (iN a0), .dat (iN a1), .dat (sl_Kind a2), .ptr 404000101 0, .dat (iN v8), .dat (iN v9), .fn 74 [] [.ptr 404000806 0], .dat (iN v14)]
def Bf31_i403_14 (a0 : Int) (a1 : Int) (a2 : List Kind) (v8 : Int) (v9 : Int) (v14 : Int) (b101''' : List Choice) : List Blk := [.box [.dat (iN (0 : Int)), .dat (iN (0 : Int)), .nil], .arr (flatC Choice.d (b101''')), .box [.ptr 404000101 (0 + Int.toNat v8 * 65 + Int.toNat v9 * 5)]]
def Yf31_i403_14 (a0 : Int) (a1 : Int) (a2 : List Kind) (v8 : Int) (v9 : Int) (y : Nat × Int × (List Choice)) : List SV := Vf31_i403_14 a0 a1 a2 v8 v9 y.2.1 y.2.2
def Xf31_i403_14 (a0 : Int) (a1 : Int) (a2 : List Kind) (v8 : Int) (v9 : Int) (y : Nat × Int × (List Choice)) : List Blk := Bf31_i403_14 a0 a1 a2 v8 v9 y.2.1 y.2.2
def Jf31_i403_14 (a0 : Int) (a1 : Int) (a2 : List Kind) (N : Nat) (v8 : Int) (v9 : Int) (k4 : (List Choice) → Option (Layout × Int)) (r : Layout × Int) (y : Nat × Int × (List Choice)) : Prop := f31_i403_14 a0 a1 a2 N v8 v9 k4 y.1 y.2.1 y.2.2 = some r
theorem Lf31_i403_14 {r : Layout × Int} {a0 : Int} {a1 : Int} {a2 : List Kind} {N : Nat} {v8 : Int} {v9 : Int} {k4 : (List Choice) → Option (Layout × Int)} {fu : Nat} {v14 : Int} {b101''' : List Choice} (hz : Sf31_i403_14.ok p = true) (h0 : AtH Sf31_i403_14 st (Vf31_i403_14 a0 a1 a2 v8 v9 v14 b101''') (Bf31_i403_14 a0 a1 a2 v8 v9 v14 b101''')) (h : ∀ (n : Nat) (v14 : Int) (b101''' : List Choice), f31_i403_14b (f31_i403_14 a0 a1 a2 N v8 v9 k4 n) a0 a1 a2 N v8 v9 k4 v14 b101''' = some r → vc c p nid a (St.mk' Sf31_i403_14 (Vf31_i403_14 a0 a1 a2 v8 v9 v14 b101''') (Bf31_i403_14 a0 a1 a2 v8 v9 v14 b101''')) (Kloop Sf31_i403_14 (Yf31_i403_14 a0 a1 a2 v8 v9) (Xf31_i403_14 a0 a1 a2 v8 v9) (Jf31_i403_14 a0 a1 a2 N v8 v9 k4 r) Prod.fst (n + 1, v14, b101''') K)) (hF : f31_i403_14 a0 a1 a2 N v8 v9 k4 fu v14 b101''' = some r) : vc c p nid (.loop a) st K := by
  refine vc_loop Sf31_i403_14 (Yf31_i403_14 a0 a1 a2 v8 v9) (Xf31_i403_14 a0 a1 a2 v8 v9) (Jf31_i403_14 a0 a1 a2 N v8 v9 k4 r) Prod.fst hz (kheadL (x := (fu, v14, b101''')) hF h0) ?_
  rintro ⟨_ | n, v14, b101'''⟩ hI
  · cases hI
  · exact h n v14 b101''' hI
theorem Mf31_i403_14 {r : Layout × Int} {a0 : Int} {a1 : Int} {a2 : List Kind} {N : Nat} {v8 : Int} {v9 : Int} {k4 : (List Choice) → Option (Layout × Int)} {n : Nat} {v14 : Int} {b101''' : List Choice} {v14_ : Int} {b101'''_ : List Choice} (hF : f31_i403_14 a0 a1 a2 N v8 v9 k4 n v14 b101''' = some r) (h0 : AtH Sf31_i403_14 st (Vf31_i403_14 a0 a1 a2 v8 v9 v14 b101''') (Bf31_i403_14 a0 a1 a2 v8 v9 v14 b101''')) : Kloop Sf31_i403_14 (Yf31_i403_14 a0 a1 a2 v8 v9) (Xf31_i403_14 a0 a1 a2 v8 v9) (Jf31_i403_14 a0 a1 a2 N v8 v9 k4 r) Prod.fst (n + 1, v14_, b101'''_) K .normal st := by
  exact kback (y := (n, v14, b101''')) hF (Nat.lt_succ_self n) h0
def f31_i403_c12 (a0 : Int) (a1 : Int) (a2 : List Kind) (N : Nat) (v8 : Int) (v9 : Int) (k3 : (List Choice) → Option (Layout × Int)) (b101'' : List Choice) : Option (Layout × Int) :=
 joinK (f31_i403_c17 a0 a1 a2 N v8 v9 k3) fun k4 =>
 f31_i403_14 a0 a1 a2 N v8 v9 k4 N (1 : Int) (b101'')
def Sf31_i403_c12 : Ann := ⟨[0, 1, 2, 7, 8, 9, 10], [0, 404000101, 404000806], [], []⟩
def Vf31_i403_c12 (a0 : Int) (a1 : Int) (a2 : List Kind) (v8 : Int) (v9 : Int) (b101'' : List Choice) : List SV := [.dat (iN a0), .dat (iN a1), .dat (sl_Kind a2), .ptr 404000101 0, .dat (iN v8), .dat (iN v9), .ptr 404000806 0]
def Bf31_i403_c12 (a0 : Int) (a1 : Int) (a2 : List Kind) (v8 : Int) (v9 : Int) (b101'' : List Choice) : List Blk := [.box [.dat (iN (0 : Int)), .dat (iN (0 : Int)), .nil], .arr (flatC Choice.d (b101'')), .box [.ptr 404000101 (0 + Int.toNat v8 * 65 + Int.toNat v9 * 5)]]
def Yf31_i403_c12 (a0 : Int) (a1 : Int) (a2 : List Kind) (v8 : Int) (v9 : Int) (y : (List Choice)) : List SV := Vf31_i403_c12 a0 a1 a2 v8 v9 y
def Xf31_i403_c12 (a0 : Int) (a1 : Int) (a2 : List Kind) (v8 : Int) (v9 : Int) (y : (List Choice)) : List Blk := Bf31_i403_c12 a0 a1 a2 v8 v9 y
def Jf31_i403_c12 (a0 : Int) (a1 : Int) (a2 : List Kind) (N : Nat) (v8 : Int) (v9 : Int) (k3 : (List Choice) → Option (Layout × Int)) (r : Layout × Int) (y : (List Choice)) : Prop := f31_i403_c12 a0 a1 a2 N v8 v9 k3 y = some r
theorem Cf31_i403_c12 {r : Layout × Int} {a0 : Int} {a1 : Int} {a2 : List Kind} {N : Nat} {v8 : Int} {v9 : Int} {k3 : (List Choice) → Option (Layout × Int)} {g : _ → Option (Layout × Int)} (hn : Nat.beq (nid * 1000 + firstRegion b) 404000000012 = true) (hz : Sf31_i403_c12.ok p = true) (h : g (f31_i403_c12 a0 a1 a2 N v8 v9 k3) = some r → vc c p nid a st (KHead Sf31_i403_c12 (Yf31_i403_c12 a0 a1 a2 v8 v9) (Xf31_i403_c12 a0 a1 a2 v8 v9) (Jf31_i403_c12 a0 a1 a2 N v8 v9 k3 r) K)) (h2 : ∀ (b101'' : List Choice), f31_i403_c12 a0 a1 a2 N v8 v9 k3 b101'' = some r → vc c p nid b (St.mk' Sf31_i403_c12 (Vf31_i403_c12 a0 a1 a2 v8 v9 b101'') (Bf31_i403_c12 a0 a1 a2 v8 v9 b101'')) K) (hF : joinK (f31_i403_c12 a0 a1 a2 N v8 v9 k3) g = some r) : vc c p nid (.seq a b) st K :=
  vc_cut Sf31_i403_c12 (Yf31_i403_c12 a0 a1 a2 v8 v9) (Xf31_i403_c12 a0 a1 a2 v8 v9) (Jf31_i403_c12 a0 a1 a2 N v8 v9 k3 r) hz (h hF) fun y hy => h2 y hy
theorem Zf31_i403_c12 {r : Layout × Int} {a0 : Int} {a1 : Int} {a2 : List Kind} {N : Nat} {v8 : Int} {v9 : Int} {k3 : (List Choice) → Option (Layout × Int)} {b101'' : List Choice} (hF : f31_i403_c12 a0 a1 a2 N v8 v9 k3 b101'' = some r) (h0 : AtH Sf31_i403_c12 st (Vf31_i403_c12 a0 a1 a2 v8 v9 b101'') (Bf31_i403_c12 a0 a1 a2 v8 v9 b101'')) : KHead Sf31_i403_c12 (Yf31_i403_c12 a0 a1 a2 v8 v9) (Xf31_i403_c12 a0 a1 a2 v8 v9) (Jf31_i403_c12 a0 a1 a2 N v8 v9 k3 r) K .normal st := by
  exact khead (I := (Jf31_i403_c12 a0 a1 a2 N v8 v9 k3 r)) (x := (b101'')) hF h0
def f31_i403_6b (r6 : Int → (List Choice) → Option (Layout × Int)) (a0 : Int) (a1 : Int) (a2 : List Kind) (N : Nat) (v8 : Int) (k2 : (List Choice) → Option (Layout × Int)) (v9 : Int) (b101' : List Choice) : Option (Layout × Int) :=
 bif decide (v9 ≤ a1) then (joinK (f31_i403_c7 a0 a1 a2 v8 v9 r6) fun k3 =>
 (chkI 13 v8).bind fun _ =>
 (chkI 13 v9).bind fun _ =>
 joinK (f31_i403_c12 a0 a1 a2 N v8 v9 k3) fun k5 =>
 (f49 N v8 v9 a2).bind fun x14 =>
 bif decide ((0 : Int) < x14.1) then ((setN (b101') (Int.toNat v8 * 13 + Int.toNat v9) (Choice.mk x14.1 (1 : Int) true (Cut.mk false (0 : Int)))).bind fun x15 =>
 k5 x15)
 else (k5 (b101')))
 else (k2 (b101'))
def f31_i403_6 (a0 : Int) (a1 : Int) (a2 : List Kind) (N : Nat) (v8 : Int) (k2 : (List Choice) → Option (Layout × Int)) : Nat → Int → (List Choice) → Option (Layout × Int)
  | 0, _, _ => none
  | n + 1, v9, b101' => f31_i403_6b (f31_i403_6 a0 a1 a2 N v8 k2 n) a0 a1 a2 N v8 k2 v9 b101'
def Sf31_i403_6 : Ann := ⟨[0, 1, 2, 7, 8, 9], [0, 404000101], [], []⟩
def Vf31_i403_6 (a0 : Int) (a1 : Int) (a2 : List Kind) (v8 : Int) (v9 : Int) (b101' : List Choice) : List SV := [.dat (iN a0), .dat (iN a1), .dat (sl_Kind a2), .ptr 404000101 0, .dat (iN v8), .dat (iN v9)]
def Bf31_i403_6 (a0 : Int) (a1 : Int) (a2 : List Kind) (v8 : Int) (v9 : Int) (b101' : List Choice) : List Blk := [.box [.dat (iN (0 : Int)), .dat (iN (0 : Int)), .nil], .arr (flatC Choice.d (b101'))]
def Yf31_i403_6 (a0 : Int) (a1 : Int) (a2 : List Kind) (v8 : Int) (y : Nat × Int × (List Choice)) : List SV := Vf31_i403_6 a0 a1 a2 v8 y.2.1 y.2.2
def Xf31_i403_6 (a0 : Int) (a1 : Int) (a2 : List Kind) (v8 : Int) (y : Nat × Int × (List Choice)) : List Blk := Bf31_i403_6 a0 a1 a2 v8 y.2.1 y.2.2
def Jf31_i403_6 (a0 : Int) (a1 : Int) (a2 : List Kind) (N : Nat) (v8 : Int) (k2 : (List Choice) → Option (Layout × Int)) (r : Layout × Int) (y : Nat × Int × (List Choice)) : Prop := f31_i403_6 a0 a1 a2 N v8 k2 y.1 y.2.1 y.2.2 = some r
theorem Lf31_i403_6 {r : Layout × Int} {a0 : Int} {a1 : Int} {a2 : List Kind} {N : Nat} {v8 : Int} {k2 : (List Choice) → Option (Layout × Int)} {fu : Nat} {v9 : Int} {b101' : List Choice} (hz : Sf31_i403_6.ok p = true) (h0 : AtH Sf31_i403_6 st (Vf31_i403_6 a0 a1 a2 v8 v9 b101') (Bf31_i403_6 a0 a1 a2 v8 v9 b101')) (h : ∀ (n : Nat) (v9 : Int) (b101' : List Choice), f31_i403_6b (f31_i403_6 a0 a1 a2 N v8 k2 n) a0 a1 a2 N v8 k2 v9 b101' = some r → vc c p nid a (St.mk' Sf31_i403_6 (Vf31_i403_6 a0 a1 a2 v8 v9 b101') (Bf31_i403_6 a0 a1 a2 v8 v9 b101')) (Kloop Sf31_i403_6 (Yf31_i403_6 a0 a1 a2 v8) (Xf31_i403_6 a0 a1 a2 v8) (Jf31_i403_6 a0 a1 a2 N v8 k2 r) Prod.fst (n + 1, v9, b101') K)) (hF : f31_i403_6 a0 a1 a2 N v8 k2 fu v9 b101' = some r) : vc c p nid (.loop a) st K := by
  refine vc_loop Sf31_i403_6 (Yf31_i403_6 a0 a1 a2 v8) (Xf31_i403_6 a0 a1 a2 v8) (Jf31_i403_6 a0 a1 a2 N v8 k2 r) Prod.fst hz (kheadL (x := (fu, v9, b101')) hF h0) ?_
  rintro ⟨_ | n, v9, b101'⟩ hI
  · cases hI
  · exact h n v9 b101' hI
theorem Mf31_i403_6 {r : Layout × Int} {a0 : Int} {a1 : Int} {a2 : List Kind} {N : Nat} {v8 : Int} {k2 : (List Choice) → Option (Layout × Int)} {n : Nat} {v9 : Int} {b101' : List Choice} {v9_ : Int} {b101'_ : List Choice} (hF : f31_i403_6 a0 a1 a2 N v8 k2 n v9 b101' = some r) (h0 : AtH Sf31_i403_6 st (Vf31_i403_6 a0 a1 a2 v8 v9 b101') (Bf31_i403_6 a0 a1 a2 v8 v9 b101')) : Kloop Sf31_i403_6 (Yf31_i403_6 a0 a1 a2 v8) (Xf31_i403_6 a0 a1 a2 v8) (Jf31_i403_6 a0 a1 a2 N v8 k2 r) Prod.fst (n + 1, v9_, b101'_) K .normal st := by
  exact kback (y := (n, v9, b101')) hF (Nat.lt_succ_self n) h0
def f31_i403_3b (r3 : Int → (List Choice) → Option (Layout × Int)) (a0 : Int) (a1 : Int) (a2 : List Kind) (N : Nat) (k1 : (List Choice) → Option (Layout × Int)) (v8 : Int) (b101 : List Choice) : Option (Layout × Int) :=
 bif decide (v8 ≤ a0) then (joinK (f31_i403_c4 a0 a1 a2 v8 r3) fun k2 =>
 f31_i403_6 a0 a1 a2 N v8 k2 N (1 : Int) b101)
 else (k1 b101)
def f31_i403_3 (a0 : Int) (a1 : Int) (a2 : List Kind) (N : Nat) (k1 : (List Choice) → Option (Layout × Int)) : Nat → Int → (List Choice) → Option (Layout × Int)
  | 0, _, _ => none
  | n + 1, v8, b101 => f31_i403_3b (f31_i403_3 a0 a1 a2 N k1 n) a0 a1 a2 N k1 v8 b101
def Sf31_i403_3 : Ann := ⟨[0, 1, 2, 7, 8], [0, 404000101], [], []⟩
def Vf31_i403_3 (a0 : Int) (a1 : Int) (a2 : List Kind) (v8 : Int) (b101 : List Choice) : List SV := [.dat (iN a0), .dat (iN a1), .dat (sl_Kind a2), .ptr 404000101 0, .dat (iN v8)]
def Bf31_i403_3 (a0 : Int) (a1 : Int) (a2 : List Kind) (v8 : Int) (b101 : List Choice) : List Blk := [.box [.dat (iN (0 : Int)), .dat (iN (0 : Int)), .nil], .arr (flatC Choice.d b101)]
def Yf31_i403_3 (a0 : Int) (a1 : Int) (a2 : List Kind) (y : Nat × Int × (List Choice)) : List SV := Vf31_i403_3 a0 a1 a2 y.2.1 y.2.2
def Xf31_i403_3 (a0 : Int) (a1 : Int) (a2 : List Kind) (y : Nat × Int × (List Choice)) : List Blk := Bf31_i403_3 a0 a1 a2 y.2.1 y.2.2
def Jf31_i403_3 (a0 : Int) (a1 : Int) (a2 : List Kind) (N : Nat) (k1 : (List Choice) → Option (Layout × Int)) (r : Layout × Int) (y : Nat × Int × (List Choice)) : Prop := f31_i403_3 a0 a1 a2 N k1 y.1 y.2.1 y.2.2 = some r
theorem Lf31_i403_3 {r : Layout × Int} {a0 : Int} {a1 : Int} {a2 : List Kind} {N : Nat} {k1 : (List Choice) → Option (Layout × Int)} {fu : Nat} {v8 : Int} {b101 : List Choice} (hz : Sf31_i403_3.ok p = true) (h0 : AtH Sf31_i403_3 st (Vf31_i403_3 a0 a1 a2 v8 b101) (Bf31_i403_3 a0 a1 a2 v8 b101)) (h : ∀ (n : Nat) (v8 : Int) (b101 : List Choice), f31_i403_3b (f31_i403_3 a0 a1 a2 N k1 n) a0 a1 a2 N k1 v8 b101 = some r → vc c p nid a (St.mk' Sf31_i403_3 (Vf31_i403_3 a0 a1 a2 v8 b101) (Bf31_i403_3 a0 a1 a2 v8 b101)) (Kloop Sf31_i403_3 (Yf31_i403_3 a0 a1 a2) (Xf31_i403_3 a0 a1 a2) (Jf31_i403_3 a0 a1 a2 N k1 r) Prod.fst (n + 1, v8, b101) K)) (hF : f31_i403_3 a0 a1 a2 N k1 fu v8 b101 = some r) : vc c p nid (.loop a) st K := by
  refine vc_loop Sf31_i403_3 (Yf31_i403_3 a0 a1 a2) (Xf31_i403_3 a0 a1 a2) (Jf31_i403_3 a0 a1 a2 N k1 r) Prod.fst hz (kheadL (x := (fu, v8, b101)) hF h0) ?_
  rintro ⟨_ | n, v8, b101⟩ hI
  · cases hI
  · exact h n v8 b101 hI
theorem Mf31_i403_3 {r : Layout × Int} {a0 : Int} {a1 : Int} {a2 : List Kind} {N : Nat} {k1 : (List Choice) → Option (Layout × Int)} {n : Nat} {v8 : Int} {b101 : List Choice} {v8_ : Int} {b101_ : List Choice} (hF : f31_i403_3 a0 a1 a2 N k1 n v8 b101 = some r) (h0 : AtH Sf31_i403_3 st (Vf31_i403_3 a0 a1 a2 v8 b101) (Bf31_i403_3 a0 a1 a2 v8 b101)) : Kloop Sf31_i403_3 (Yf31_i403_3 a0 a1 a2) (Xf31_i403_3 a0 a1 a2) (Jf31_i403_3 a0 a1 a2 N k1 r) Prod.fst (n + 1, v8_, b101_) K .normal st := by
  exact kback (y := (n, v8, b101)) hF (Nat.lt_succ_self n) h0
def f31 (N : Nat) (a0 : Int) (a1 : Int) (a2 : List Kind) : Option (Layout × Int) :=
 (f66 N a0 a1 a2).bind fun x1 =>
 bif decide (¬ x1 = (0 : Int)) then (some ((Layout.mk (0 : Int) (0 : Int) []), x1))
 else (joinK (f31_i403_c21 a0 a1 N) fun k1 =>
 f31_i403_3 a0 a1 a2 N k1 N (1 : Int) (List.replicate 169 (Choice.mk (0 : Int) (0 : Int) false (Cut.mk false (0 : Int)))))
def G31 (ds : List D) (d : D) : Prop := ∃ (N : Nat) (a0 : Int) (a1 : Int) (a2 : List Kind) (r : Layout × Int), ds = [iN a0, iN a1, sl_Kind a2] ∧ f31 N a0 a1 a2 = some r ∧ d = .tup [Layout.d r.1, iN r.2]
theorem G31.step {N : Nat} {a0 : Int} {a1 : Int} {a2 : List Kind} {ρ : Type} {A : (Layout × Int) → Option ρ} {q : ρ} {ds : List D} {K : D → Prop} (hd : ds = [iN a0, iN a1, sl_Kind a2]) (h : ∀ r, A r = some q → K (.tup [Layout.d r.1, iN r.2])) (hF : (f31 N a0 a1 a2).bind A = some q) : ∃ d, G31 ds d ∧ K d := by
  obtain ⟨r, hr, hA⟩ := bind_some hF
  exact ⟨_, ⟨N, a0, a1, a2, r, hd, hr, rfl⟩, h r hA⟩
set_option maxRecDepth 20000 in
set_option maxHeartbeats 4000000 in
theorem P31 : PureOK Try.prog 31 G31 := by
  refine pure_of_vc (c := mkCtx tyTree [(67, false, inlPg (mkCtx tyTree [(74, false, inlPg (mkCtx tyTree [(75, true, purePg [[0, 0, 0, 0, 0], [0, 0, 0, 0, 0]] G75)]) Try.f74), (49, true, purePg [[0], [0], [3]] G49)]) Try.f67), (68, false, effPg Spf68 G68), (66, true, purePg [[0], [0], [3]] G66)]) rfl tyOK (ctx_eff (callable Try.func67 rfl rfl) (CallOK.inl rfl tyOK (ctx_eff (callable Try.func74 rfl rfl) (CallOK.inl rfl tyOK (ctx_cons (callable Try.func75 rfl rfl) P75 (ctx_nil)) Try.func74 (by kernel_rfl)) (ctx_cons (callable Try.func49 rfl rfl) P49 (ctx_nil))) Try.func67 (by kernel_rfl)) (ctx_eff (callable Try.func68 rfl rfl) P68 (ctx_cons (callable Try.func66 rfl rfl) P66 (ctx_nil)))) [[0, 0, 4], [0]] 3 Try.func31 rfl rfl (by decide) (by kernel_rfl) ?_
  rintro ds d ⟨N, a0, a1, a2, r, rfl, hF, rfl⟩ hok
  clear hok
  refine ⟨rfl, ?_⟩
  show vc _ _ _ _ ⟨[(0, .dat (iN a0)), (1, .dat (iN a1)), (2, .dat (sl_Kind a2))], []⟩ _
  unfold f31 at hF
  repeat' (first
    | ((with_reducible refine q0 _ _ ?_); clear Q q0 q1 q2)
    | ((with_reducible refine q1 _ _ _ _ ?_); clear Q q0 q1 q2)
    | ((with_reducible refine q2 _ _ _ ?_); clear Q q0 q1 q2)
    | ((with_reducible refine seq_op ?hx (fun Q q0 q1 q2 => ?_)); (case hx => exact rfl); conv => whnf)
    | ((with_reducible refine draw_op ?hx (fun Q q0 q1 q2 => ?_)); (case hx => exact rfl); conv => whnf)
    | ((with_reducible refine seq_op0 ?hx (fun Q q0 q1 q2 => ?_)); (case hx => exact rfl); conv => whnf)
    | ((with_reducible refine draw_op0 ?hx (fun Q q0 q1 q2 => ?_)); (case hx => exact rfl); conv => whnf)
    | ((with_reducible refine cond_id ?_); (first | ((refine condKT rfl ?hy ?_); (case hy => first | assumption | exact notT (by assumption) | exact rfl)) | ((refine condKF rfl ?hy ?_); (case hy => first | assumption | exact notF (by assumption) | exact rfl)) | (revert hF; (with_reducible refine condF ?hx ?_ ?_); (case hx => exact rfl); all_goals (intro hc hF))))
    | ((with_reducible refine seq_nil ?_); (first | ((with_reducible refine hR _ ?_); clear R hR) | ((with_reducible refine hL _ ?_); clear L hL)))
    | ((with_reducible refine draw_nil ?_); (with_reducible refine hR _ _ ?hx ?_); (case hx => kernel_rfl); (first | clear R hR | clear hR))
    | ((with_reducible refine int_step ?_); conv => whnf)
    | ((with_reducible refine len_step ?_); conv => whnf)
    | with_reducible refine vc_block ?_
    | with_reducible refine vc_skip ?_
    | with_reducible refine vc_ret ?_
    | with_reducible refine vc_exit ?_
    | ((with_reducible refine vc_seqN [10, 404000000021, 404000000004, 404000000007, 404000000017, 404000000012] ?hx ?_); (case hx => exact rfl))
    | (with_reducible refine vc_region (fun R hR => ?_))
    | ((with_reducible refine vc_draw ?hx (fun R hR => ?_)); (case hx => exact rfl))
    | ((with_reducible refine vc_tail (n := 4) ?hx ?hn rfl rfl (fun R L hL hR => ?_)); (case hx => kernel_rfl); (case hn => exact rfl); simp only [List.take_succ_cons, List.take_zero, List.drop_succ_cons, List.drop_zero] at hR ⊢)
    | ((with_reducible refine vc_tail (n := 19) ?hx ?hn rfl rfl (fun R L hL hR => ?_)); (case hx => kernel_rfl); (case hn => exact rfl); simp only [List.take_succ_cons, List.take_zero, List.drop_succ_cons, List.drop_zero] at hR ⊢)
    | (revert hF; (refine Cf31_c10 rfl rfl ?_ ?_); (intro hF); rotate_left; (intro b703_2 hF; unfold f31_c10 at hF); rotate_right)
    | exact Zf31_c10 hF ⟨_, rfl, rfl, rfl, rfl⟩ (by first | exact rfl | assumption | omega)
    | (revert hF; (refine Cf31_i403_c21 rfl rfl ?_ ?_); (intro hF); rotate_left; (intro b101 hF; unfold f31_i403_c21 at hF); rotate_right)
    | exact Zf31_i403_c21 hF ⟨_, rfl, rfl, rfl, rfl⟩
    | (revert hF; (refine Cf31_i403_c4 rfl rfl ?_ ?_); (intro hF); rotate_left; (intro b101' hF; unfold f31_i403_c4 at hF); rotate_right)
    | exact Zf31_i403_c4 hF ⟨_, rfl, rfl, rfl, rfl⟩
    | (revert hF; (refine Cf31_i403_c7 rfl rfl ?_ ?_); (intro hF); rotate_left; (intro b101'' hF; unfold f31_i403_c7 at hF); rotate_right)
    | exact Zf31_i403_c7 hF ⟨_, rfl, rfl, rfl, rfl⟩
    | (revert hF; (refine Lf31_i403_18 rfl ⟨_, rfl, rfl, rfl, rfl⟩ ?_); intro n v15 b101'''' hF; unfold f31_i403_18b at hF)
    | exact Mf31_i403_18 hF ⟨_, rfl, rfl, rfl, rfl⟩
    | (revert hF; (refine Cf31_i403_c17 rfl rfl ?_ ?_); (intro hF); rotate_left; (intro b101''' hF; unfold f31_i403_c17 at hF); rotate_right)
    | exact Zf31_i403_c17 hF ⟨_, rfl, rfl, rfl, rfl⟩
    | (revert hF; (refine Lf31_i403_14 rfl ⟨_, rfl, rfl, rfl, rfl⟩ ?_); intro n v14 b101''' hF; unfold f31_i403_14b at hF)
    | exact Mf31_i403_14 hF ⟨_, rfl, rfl, rfl, rfl⟩
    | (revert hF; (refine Cf31_i403_c12 rfl rfl ?_ ?_); (intro hF); rotate_left; (intro b101'' hF; unfold f31_i403_c12 at hF); rotate_right)
    | exact Zf31_i403_c12 hF ⟨_, rfl, rfl, rfl, rfl⟩
    | (revert hF; (refine Lf31_i403_6 rfl ⟨_, rfl, rfl, rfl, rfl⟩ ?_); intro n v9 b101' hF; unfold f31_i403_6b at hF)
    | exact Mf31_i403_6 hF ⟨_, rfl, rfl, rfl, rfl⟩
    | (revert hF; (refine Lf31_i403_3 rfl ⟨_, rfl, rfl, rfl, rfl⟩ ?_); intro n v8 b101 hF; unfold f31_i403_3b at hF)
    | exact Mf31_i403_3 hF ⟨_, rfl, rfl, rfl, rfl⟩
    | (revert hF; (with_reducible refine G49.step ?hx ?_); (case hx => exact rfl); intro v hF; conv => whnf)
    | (revert hF; (with_reducible refine G66.step ?hx ?_); (case hx => exact rfl); intro v hF; conv => whnf)
    | (revert hF; (with_reducible refine G75.step ?hx ?_); (case hx => exact rfl); intro v hF; conv => whnf)
    | (revert hF; (refine G68.step rfl rfl rfl rfl rfl rfl rfl ?hn ?_); (case hn => exact rfl); intro v hF; conv => whnf)
    | ((with_reducible refine zeroA_step (flatC Choice.d (List.replicate 169 (Choice.mk (0 : Int) (0 : Int) false (Cut.mk false (0 : Int))))) ?hx ?_); (case hx => exact ⟨by kernel_rfl, by kernel_rfl⟩); conv => whnf)
    | ((with_reducible refine zeroD_step (flatC Choice.d (List.replicate 169 (Choice.mk (0 : Int) (0 : Int) false (Cut.mk false (0 : Int))))) ?hx ?_); (case hx => (unfold zeroD; kernel_rfl)); conv => whnf)
    | ((with_reducible refine chkI_go hF ?_); (clear hF; intro hF; conv => whnf))
    | ((with_reducible have hG := ixN_fact hF); clear hF; (first | (refine ixN_one hG (by (try simp only [W]); omega) (fun x hF => ?_)) | (refine ixN_agg hG (fun _ => rfl) (by (try simp only [W]); omega) (fun x hF => ?_)) | (refine ixN_field (s := 5) (f := 1) (fun x => iN x.labels) hG (fun _ => rfl) (fun _ => rfl) (by (try simp only [W]); omega) (fun x hF => ?_))); clear hG; conv => whnf)
    | ((with_reducible have hG := setN_fact hF); clear hF; (first | (refine setN_one hG (by (try simp only [W]); omega) rfl rfl (fun q hF => ?_)) | (refine setN_agg hG (fun _ => rfl) (by (try simp only [W]); omega) rfl rfl (fun q hF => ?_))); clear hG; conv => whnf)
    | with_reducible refine k_seq_ret ?_
    | with_reducible refine k_seq_exit ?_
    | with_reducible refine k_blk ?_
    | with_reducible refine k_blk_ret ?_
    | with_reducible refine k_blk_here ?_
    | ((with_reducible refine k_blk_out ?hx ?_); (case hx => exact rfl))
    | with_reducible refine k_loop_ret ?_
    | with_reducible refine k_loop_exit ?_
    | ((refine row_all ?hn ?_); (case hn => first | exact rfl | (simp; done) | (simp; omega)); conv => whnf)
    | ((with_reducible refine le_step ?hn ?_); (case hn => first | exact rfl | assumption | omega); conv => whnf)
    | ((refine ⟨?hx, ?_⟩); (case hx => exact ⟨rfl, Nat.le_of_ble_eq_true rfl, rfl⟩); conv => whnf)
    | ((with_reducible refine ex_step ?_); conv => whnf)
    | ((with_reducible refine both_T ?hx ?_); (case hx => first | exact rfl | assumption | exact notT (by assumption)); conv => whnf)
    | ((with_reducible refine both_F ?hx ?_); (case hx => first | exact rfl | assumption | exact notF (by assumption)); conv => whnf)
    | (revert hF; (with_reducible refine ite_step ?_ ?_) <;> (intro hc hF; conv => whnf))
    | ((with_reducible refine vc_condT ?hx ?_); (case hx => exact rfl))
    | ((with_reducible refine vc_condF ?hx ?_); (case hx => exact rfl))
    | (show retD _ _ _ _ _ _; conv => whnf)
    | ((refine inl_step ?ha ?hb ?hc rfl ?_); (case ha => exact rfl); (case hb => omega); (case hc => exact Nat.le_of_ble_eq_true rfl))
    | (show Kinl _ _ _ _ _ _ _; conv => whnf)
    | ((with_reducible refine kinl_step ?ha ?hb ?_); (case ha => exact rfl); (case hb => exact rfl); conv => whnf)
    | ((refine ⟨?hx, trivial⟩); (case hx => (cases hF; exact rfl)))
    | ((refine ⟨?hx, ?_⟩); (case hx => decide); conv => whnf)
    | ((with_reducible refine k_seq ?_))
    | (have hF : (none : Option _) = some _ := hF; cases hF))
end
end Go.Vc
namespace Go.Vc
open Go.Proofs
set_option linter.unusedVariables false
set_option linter.unnecessarySimpa false
set_option linter.unusedSimpArgs false
section
variable {c : Ctx} {p nid : Nat} {a b : Code} {st : St} {K : Ex → St → Prop}
/- f42: tusche/tuschelaw06.labels -/
def f42_c6 (out3 : List Label) : Option ((List Label)) :=
 some (out3)
def Sf42_c6 : Ann := ⟨[3], [90003], [(.slot 3, 90003, 50, 4)], []⟩
def Vf42_c6 (out3 : List Label) : List SV := [.rs 90003 (List.length out3)]
def Bf42_c6 (out3 : List Label) : List Blk := [.row 50 4 (List.map Label.d out3)]
def Yf42_c6 (y : (List Label)) : List SV := Vf42_c6 y
def Xf42_c6 (y : (List Label)) : List Blk := Bf42_c6 y
def Jf42_c6 (r : (List Label)) (y : (List Label)) : Prop := f42_c6 y = some r
def V2f42_c6 (out3 : List Label) (m0 : Nat) : List SV := [.rs 90003 m0]
def B2f42_c6 (out3 : List Label) (m0 : Nat) : List Blk := [.row 50 4 (List.map Label.d out3)]
theorem Cf42_c6 {r : (List Label)} {g : _ → Option ((List Label))} (hn : Nat.beq (nid * 1000 + firstRegion b) 6 = true) (hz : Sf42_c6.ok p = true) (h : g f42_c6 = some r → vc c p nid a st (KHead Sf42_c6 Yf42_c6 Xf42_c6 (Jf42_c6 r) K)) (h2 : ∀ (out3 : List Label), f42_c6 out3 = some r → vc c p nid b (St.mk' Sf42_c6 (Vf42_c6 out3) (Bf42_c6 out3)) K) (hF : joinK f42_c6 g = some r) : vc c p nid (.seq a b) st K :=
  vc_cut Sf42_c6 Yf42_c6 Xf42_c6 (Jf42_c6 r) hz (h hF) fun y hy => h2 y hy
theorem Zf42_c6 {r : (List Label)} {out3 : List Label} {m0 : Nat} (hF : f42_c6 out3 = some r) (h0 : AtH Sf42_c6 st (V2f42_c6 out3 m0) (B2f42_c6 out3 m0)) (em0 : m0 = List.length out3) : KHead Sf42_c6 Yf42_c6 Xf42_c6 (Jf42_c6 r) K .normal st := by
  subst em0; exact khead (I := (Jf42_c6 r)) (x := (out3)) hF h0
def f42_3b (r3 : (List Label) → Int → Option ((List Label))) (a0 : List Int) (k0 : (List Label) → Option ((List Label))) (out3 : List Label) (i4 : Int) : Option ((List Label)) :=
 bif decide ((W (i4 + (3 : Int))) < (List.length a0 : Int)) then ((ix a0 i4).bind fun x1 =>
 (ix a0 (W (i4 + (1 : Int)))).bind fun x2 =>
 (ix a0 (W (i4 + (2 : Int)))).bind fun x3 =>
 (ix a0 (W (i4 + (3 : Int)))).bind fun x4 =>
 (app 32 out3 [(Label.mk x1 x2 x3 x4)]).bind fun x5 =>
 r3 x5 (W (i4 + (4 : Int))))
 else (k0 out3)
def f42_3 (a0 : List Int) (k0 : (List Label) → Option ((List Label))) : Nat → (List Label) → Int → Option ((List Label))
  | 0, _, _ => none
  | n + 1, out3, i4 => f42_3b (f42_3 a0 k0 n) a0 k0 out3 i4
def Sf42_3 : Ann := ⟨[0, 3, 4], [90003], [(.slot 3, 90003, 50, 4)], []⟩
def Vf42_3 (a0 : List Int) (out3 : List Label) (i4 : Int) : List SV := [.dat (sl_iN a0), .rs 90003 (List.length out3), .dat (iN i4)]
def Bf42_3 (a0 : List Int) (out3 : List Label) (i4 : Int) : List Blk := [.row 50 4 (List.map Label.d out3)]
def Yf42_3 (a0 : List Int) (y : Nat × (List Label) × Int) : List SV := Vf42_3 a0 y.2.1 y.2.2
def Xf42_3 (a0 : List Int) (y : Nat × (List Label) × Int) : List Blk := Bf42_3 a0 y.2.1 y.2.2
def Jf42_3 (a0 : List Int) (k0 : (List Label) → Option ((List Label))) (r : (List Label)) (y : Nat × (List Label) × Int) : Prop := f42_3 a0 k0 y.1 y.2.1 y.2.2 = some r
def V2f42_3 (a0 : List Int) (out3 : List Label) (i4 : Int) (m0 : Nat) : List SV := [.dat (sl_iN a0), .rs 90003 m0, .dat (iN i4)]
def B2f42_3 (a0 : List Int) (out3 : List Label) (i4 : Int) (m0 : Nat) : List Blk := [.row 50 4 (List.map Label.d out3)]
theorem Lf42_3 {r : (List Label)} {a0 : List Int} {k0 : (List Label) → Option ((List Label))} {fu : Nat} {out3 : List Label} {i4 : Int} {m0 : Nat} (hz : Sf42_3.ok p = true) (h0 : AtH Sf42_3 st (V2f42_3 a0 out3 i4 m0) (B2f42_3 a0 out3 i4 m0)) (em0 : m0 = List.length out3) (h : ∀ (n : Nat) (out3 : List Label) (i4 : Int), f42_3b (f42_3 a0 k0 n) a0 k0 out3 i4 = some r → vc c p nid a (St.mk' Sf42_3 (Vf42_3 a0 out3 i4) (Bf42_3 a0 out3 i4)) (Kloop Sf42_3 (Yf42_3 a0) (Xf42_3 a0) (Jf42_3 a0 k0 r) Prod.fst (n + 1, out3, i4) K)) (hF : f42_3 a0 k0 fu out3 i4 = some r) : vc c p nid (.loop a) st K := by
  subst em0; refine vc_loop Sf42_3 (Yf42_3 a0) (Xf42_3 a0) (Jf42_3 a0 k0 r) Prod.fst hz (kheadL (x := (fu, out3, i4)) hF h0) ?_
  rintro ⟨_ | n, out3, i4⟩ hI
  · cases hI
  · exact h n out3 i4 hI
theorem Mf42_3 {r : (List Label)} {a0 : List Int} {k0 : (List Label) → Option ((List Label))} {n : Nat} {out3 : List Label} {i4 : Int} {out3_ : List Label} {i4_ : Int} {m0 : Nat} (hF : f42_3 a0 k0 n out3 i4 = some r) (h0 : AtH Sf42_3 st (V2f42_3 a0 out3 i4 m0) (B2f42_3 a0 out3 i4 m0)) (em0 : m0 = List.length out3) : Kloop Sf42_3 (Yf42_3 a0) (Xf42_3 a0) (Jf42_3 a0 k0 r) Prod.fst (n + 1, out3_, i4_) K .normal st := by
  subst em0; exact kback (y := (n, out3, i4)) hF (Nat.lt_succ_self n) h0
def f42 (N : Nat) (a0 : List Int) : Option ((List Label)) :=
 joinK f42_c6 fun k0 =>
 f42_3 a0 k0 N [] (0 : Int)
def G42 (ds : List D) (d : D) : Prop := ∃ (N : Nat) (a0 : List Int) (r : (List Label)), ds = [sl_iN a0] ∧ f42 N a0 = some r ∧ d = sl_Label r
theorem G42.step {N : Nat} {a0 : List Int} {ρ : Type} {A : (List Label) → Option ρ} {q : ρ} {ds : List D} {K : D → Prop} (hd : ds = [sl_iN a0]) (h : ∀ r, A r = some q → K (sl_Label r)) (hF : (f42 N a0).bind A = some q) : ∃ d, G42 ds d ∧ K d := by
  obtain ⟨r, hr, hA⟩ := bind_some hF
  exact ⟨_, ⟨N, a0, r, hd, hr, rfl⟩, h r hA⟩
set_option maxRecDepth 20000 in
set_option maxHeartbeats 4000000 in
theorem P42 : PureOK Try.prog 42 G42 := by
  refine pure_of_vc (c := mkCtx tyTree []) rfl tyOK (ctx_nil) [[4]] 1 Try.func42 rfl rfl (by decide) (by kernel_rfl) ?_
  rintro ds d ⟨N, a0, r, rfl, hF, rfl⟩ hok
  clear hok
  refine ⟨rfl, ?_⟩
  show vc _ _ _ _ ⟨[(0, .dat (sl_iN a0))], []⟩ _
  unfold f42 at hF
  repeat' (first
    | ((with_reducible refine q0 _ _ ?_); clear Q q0 q1 q2)
    | ((with_reducible refine q1 _ _ _ _ ?_); clear Q q0 q1 q2)
    | ((with_reducible refine q2 _ _ _ ?_); clear Q q0 q1 q2)
    | ((with_reducible refine seq_op ?hx (fun Q q0 q1 q2 => ?_)); (case hx => exact rfl); conv => whnf)
    | ((with_reducible refine draw_op ?hx (fun Q q0 q1 q2 => ?_)); (case hx => exact rfl); conv => whnf)
    | ((with_reducible refine cond_id ?_); (first | ((refine condKT rfl ?hy ?_); (case hy => first | assumption | exact notT (by assumption) | exact rfl)) | ((refine condKF rfl ?hy ?_); (case hy => first | assumption | exact notF (by assumption) | exact rfl)) | (revert hF; (with_reducible refine condF ?hx ?_ ?_); (case hx => exact rfl); all_goals (intro hc hF))))
    | ((with_reducible refine seq_nil ?_); (first | ((with_reducible refine hR _ ?_); clear R hR) | ((with_reducible refine hL _ ?_); clear L hL)))
    | ((with_reducible refine draw_nil ?_); (with_reducible refine hR _ _ ?hx ?_); (case hx => kernel_rfl); (first | clear R hR | clear hR))
    | ((with_reducible refine int_step ?_); conv => whnf)
    | ((with_reducible refine len_step ?_); conv => whnf)
    | ((with_reducible refine idx2 (by assumption) ?_); conv => whnf)
    | ((with_reducible refine idx3 (by assumption) ?_); conv => whnf)
    | with_reducible refine vc_block ?_
    | with_reducible refine vc_skip ?_
    | with_reducible refine vc_ret ?_
    | with_reducible refine vc_exit ?_
    | ((with_reducible refine vc_seqN [6] ?hx ?_); (case hx => exact rfl))
    | (with_reducible refine vc_region (fun R hR => ?_))
    | ((with_reducible refine vc_draw ?hx (fun R hR => ?_)); (case hx => exact rfl))
    | fail
    | (revert hF; (refine Cf42_c6 rfl rfl ?_ ?_); (intro hF); rotate_left; (intro out3 hF; unfold f42_c6 at hF); rotate_right)
    | exact Zf42_c6 hF ⟨_, rfl, rfl, rfl, rfl⟩ (by first | exact rfl | assumption | omega)
    | (revert hF; (refine Lf42_3 rfl ⟨_, rfl, rfl, rfl, rfl⟩ (by first | exact rfl | assumption | omega) ?_); intro n out3 i4 hF; unfold f42_3b at hF)
    | exact Mf42_3 hF ⟨_, rfl, rfl, rfl, rfl⟩ (by first | exact rfl | assumption | omega)
    | with_reducible refine k_seq_ret ?_
    | with_reducible refine k_seq_exit ?_
    | with_reducible refine k_blk ?_
    | with_reducible refine k_blk_ret ?_
    | with_reducible refine k_blk_here ?_
    | ((with_reducible refine k_blk_out ?hx ?_); (case hx => exact rfl))
    | with_reducible refine k_loop_ret ?_
    | with_reducible refine k_loop_exit ?_
    | (revert hF; (with_reducible refine idx1 ?hn ?_); (case hn => first | exact rfl | exact (List.length_map _) | assumption | omega | simp); intro x hx hF; conv => whnf)
    | ((with_reducible have hG := app_fact hF); clear hF; (first | ((refine app_row hG ?hn ?hs (fun q hF => ?_)); (case hn => first | exact rfl | assumption | omega); (case hs => exact rfl)) | ((refine app_nil (d := Label.d) hG ?hs (fun q hF => ?_)); (case hs => exact rfl)) | ((refine app_gen (d := Label.d) hG ?ho ?hn ?hs (fun q hF => ?_)); (case ho => exact rfl); (case hn => exact rfl); (case hs => exact rfl))); clear hG; conv => whnf)
    | ((refine row_all ?hn ?_); (case hn => first | exact rfl | (simp; done) | (simp; omega)); conv => whnf)
    | ((with_reducible refine le_step ?hn ?_); (case hn => first | exact rfl | assumption | omega); conv => whnf)
    | ((refine ⟨?hx, ?_⟩); (case hx => exact ⟨rfl, Nat.le_of_ble_eq_true rfl, rfl⟩); conv => whnf)
    | ((with_reducible refine ex_step ?_); conv => whnf)
    | ((with_reducible refine both_T ?hx ?_); (case hx => first | exact rfl | assumption | exact notT (by assumption)); conv => whnf)
    | ((with_reducible refine both_F ?hx ?_); (case hx => first | exact rfl | assumption | exact notF (by assumption)); conv => whnf)
    | (revert hF; (with_reducible refine ite_step ?_ ?_) <;> (intro hc hF; conv => whnf))
    | ((with_reducible refine vc_condT ?hx ?_); (case hx => exact rfl))
    | ((with_reducible refine vc_condF ?hx ?_); (case hx => exact rfl))
    | (show retD _ _ _ _ _ _; conv => whnf)
    | ((refine ⟨?hx, trivial⟩); (case hx => (cases hF; exact rfl)))
    | ((refine ⟨?hx, ?_⟩); (case hx => decide); conv => whnf)
    | ((with_reducible refine k_seq ?_))
    | (have hF : (none : Option _) = some _ := hF; cases hF))
end
end Go.Vc
namespace Go.Vc
open Go.Proofs
set_option linter.unusedVariables false
set_option linter.unnecessarySimpa false
set_option linter.unusedSimpArgs false
section
variable {c : Ctx} {p nid : Nat} {a b : Code} {st : St} {K : Ex → St → Prop}
/- f39: tusche/tuschelaw06.M -/
def f39 (N : Nat) : Option (Layout) :=
 (f42 N [(0 : Int), (0 : Int), (2 : Int), (1 : Int), (2 : Int), (0 : Int), (1 : Int), (2 : Int), (1 : Int), (2 : Int), (2 : Int), (1 : Int), (0 : Int), (1 : Int), (1 : Int), (2 : Int), (1 : Int), (1 : Int), (1 : Int), (1 : Int)]).bind fun x1 =>
 some ((Layout.mk (3 : Int) (3 : Int) x1))
def G39 (ds : List D) (d : D) : Prop := ∃ (N : Nat) (r : Layout), ds = [] ∧ f39 N  = some r ∧ d = Layout.d r
theorem G39.step {N : Nat} {ρ : Type} {A : Layout → Option ρ} {q : ρ} {ds : List D} {K : D → Prop} (hd : ds = []) (h : ∀ r, A r = some q → K (Layout.d r)) (hF : (f39 N ).bind A = some q) : ∃ d, G39 ds d ∧ K d := by
  obtain ⟨r, hr, hA⟩ := bind_some hF
  exact ⟨_, ⟨N, r, hd, hr, rfl⟩, h r hA⟩
set_option maxRecDepth 20000 in
set_option maxHeartbeats 4000000 in
theorem P39 : PureOK Try.prog 39 G39 := by
  refine pure_of_vc (c := mkCtx tyTree [(42, true, purePg [[1]] G42)]) rfl tyOK (ctx_cons (callable Try.func42 rfl rfl) P42 (ctx_nil)) [[0, 0, 4]] 0 Try.func39 rfl rfl (by decide) (by kernel_rfl) ?_
  rintro ds d ⟨N, r, rfl, hF, rfl⟩ hok
  clear hok
  refine ⟨rfl, ?_⟩
  show vc _ _ _ _ ⟨[], []⟩ _
  unfold f39 at hF
  repeat' (first
    | ((with_reducible refine q0 _ _ ?_); clear Q q0 q1 q2)
    | ((with_reducible refine q1 _ _ _ _ ?_); clear Q q0 q1 q2)
    | ((with_reducible refine q2 _ _ _ ?_); clear Q q0 q1 q2)
    | ((with_reducible refine seq_op ?hx (fun Q q0 q1 q2 => ?_)); (case hx => exact rfl); conv => whnf)
    | ((with_reducible refine seq_op0 ?hx (fun Q q0 q1 q2 => ?_)); (case hx => exact rfl); conv => whnf)
    | ((with_reducible refine seq_nil ?_); (first | ((with_reducible refine hR _ ?_); clear R hR) | ((with_reducible refine hL _ ?_); clear L hL)))
    | ((with_reducible refine int_step ?_); conv => whnf)
    | with_reducible refine vc_skip ?_
    | with_reducible refine vc_ret ?_
    | ((with_reducible refine vc_seqN [] ?hx ?_); (case hx => exact rfl))
    | (with_reducible refine vc_region (fun R hR => ?_))
    | fail
    | (revert hF; (with_reducible refine G42.step ?hx ?_); (case hx => exact rfl); intro v hF; conv => whnf)
    | with_reducible refine k_seq_ret ?_
    | ((refine row_all ?hn ?_); (case hn => first | exact rfl | (simp; done) | (simp; omega)); conv => whnf)
    | ((with_reducible refine le_step ?hn ?_); (case hn => first | exact rfl | assumption | omega); conv => whnf)
    | ((refine ⟨?hx, ?_⟩); (case hx => exact ⟨rfl, Nat.le_of_ble_eq_true rfl, rfl⟩); conv => whnf)
    | ((with_reducible refine ex_step ?_); conv => whnf)
    | ((with_reducible refine both_T ?hx ?_); (case hx => first | exact rfl | assumption | exact notT (by assumption)); conv => whnf)
    | ((with_reducible refine both_F ?hx ?_); (case hx => first | exact rfl | assumption | exact notF (by assumption)); conv => whnf)
    | (revert hF; (with_reducible refine ite_step ?_ ?_) <;> (intro hc hF; conv => whnf))
    | (show retD _ _ _ _ _ _; conv => whnf)
    | ((refine ⟨?hx, trivial⟩); (case hx => (cases hF; exact rfl)))
    | ((refine ⟨?hx, ?_⟩); (case hx => decide); conv => whnf)
    | ((with_reducible refine k_seq ?_))
    | (have hF : (none : Option _) = some _ := hF; cases hF))
end
end Go.Vc
namespace Go.Vc
open Go.Proofs
set_option linter.unusedVariables false
set_option linter.unnecessarySimpa false
set_option linter.unusedSimpArgs false
section
variable {c : Ctx} {p nid : Nat} {a b : Code} {st : St} {K : Ex → St → Prop}
/- f40: tusche/tuschelaw06.kinds -/
def f40_c6 (out3 : List Kind) : Option ((List Kind)) :=
 some (out3)
def Sf40_c6 : Ann := ⟨[3], [90003], [(.slot 3, 90003, 88, 3)], []⟩
def Vf40_c6 (out3 : List Kind) : List SV := [.rs 90003 (List.length out3)]
def Bf40_c6 (out3 : List Kind) : List Blk := [.row 88 3 (List.map Kind.d out3)]
def Yf40_c6 (y : (List Kind)) : List SV := Vf40_c6 y
def Xf40_c6 (y : (List Kind)) : List Blk := Bf40_c6 y
def Jf40_c6 (r : (List Kind)) (y : (List Kind)) : Prop := f40_c6 y = some r
def V2f40_c6 (out3 : List Kind) (m0 : Nat) : List SV := [.rs 90003 m0]
def B2f40_c6 (out3 : List Kind) (m0 : Nat) : List Blk := [.row 88 3 (List.map Kind.d out3)]
theorem Cf40_c6 {r : (List Kind)} {g : _ → Option ((List Kind))} (hn : Nat.beq (nid * 1000 + firstRegion b) 6 = true) (hz : Sf40_c6.ok p = true) (h : g f40_c6 = some r → vc c p nid a st (KHead Sf40_c6 Yf40_c6 Xf40_c6 (Jf40_c6 r) K)) (h2 : ∀ (out3 : List Kind), f40_c6 out3 = some r → vc c p nid b (St.mk' Sf40_c6 (Vf40_c6 out3) (Bf40_c6 out3)) K) (hF : joinK f40_c6 g = some r) : vc c p nid (.seq a b) st K :=
  vc_cut Sf40_c6 Yf40_c6 Xf40_c6 (Jf40_c6 r) hz (h hF) fun y hy => h2 y hy
theorem Zf40_c6 {r : (List Kind)} {out3 : List Kind} {m0 : Nat} (hF : f40_c6 out3 = some r) (h0 : AtH Sf40_c6 st (V2f40_c6 out3 m0) (B2f40_c6 out3 m0)) (em0 : m0 = List.length out3) : KHead Sf40_c6 Yf40_c6 Xf40_c6 (Jf40_c6 r) K .normal st := by
  subst em0; exact khead (I := (Jf40_c6 r)) (x := (out3)) hF h0
def f40_3b (r3 : (List Kind) → Int → Option ((List Kind))) (a0 : List Int) (k0 : (List Kind) → Option ((List Kind))) (out3 : List Kind) (i4 : Int) : Option ((List Kind)) :=
 bif decide ((W (i4 + (2 : Int))) < (List.length a0 : Int)) then ((ix a0 i4).bind fun x1 =>
 (ix a0 (W (i4 + (1 : Int)))).bind fun x2 =>
 (ix a0 (W (i4 + (2 : Int)))).bind fun x3 =>
 (app 24 out3 [(Kind.mk x1 x2 x3)]).bind fun x4 =>
 r3 x4 (W (i4 + (3 : Int))))
 else (k0 out3)
def f40_3 (a0 : List Int) (k0 : (List Kind) → Option ((List Kind))) : Nat → (List Kind) → Int → Option ((List Kind))
  | 0, _, _ => none
  | n + 1, out3, i4 => f40_3b (f40_3 a0 k0 n) a0 k0 out3 i4
def Sf40_3 : Ann := ⟨[0, 3, 4], [90003], [(.slot 3, 90003, 88, 3)], []⟩
def Vf40_3 (a0 : List Int) (out3 : List Kind) (i4 : Int) : List SV := [.dat (sl_iN a0), .rs 90003 (List.length out3), .dat (iN i4)]
def Bf40_3 (a0 : List Int) (out3 : List Kind) (i4 : Int) : List Blk := [.row 88 3 (List.map Kind.d out3)]
def Yf40_3 (a0 : List Int) (y : Nat × (List Kind) × Int) : List SV := Vf40_3 a0 y.2.1 y.2.2
def Xf40_3 (a0 : List Int) (y : Nat × (List Kind) × Int) : List Blk := Bf40_3 a0 y.2.1 y.2.2
def Jf40_3 (a0 : List Int) (k0 : (List Kind) → Option ((List Kind))) (r : (List Kind)) (y : Nat × (List Kind) × Int) : Prop := f40_3 a0 k0 y.1 y.2.1 y.2.2 = some r
def V2f40_3 (a0 : List Int) (out3 : List Kind) (i4 : Int) (m0 : Nat) : List SV := [.dat (sl_iN a0), .rs 90003 m0, .dat (iN i4)]
def B2f40_3 (a0 : List Int) (out3 : List Kind) (i4 : Int) (m0 : Nat) : List Blk := [.row 88 3 (List.map Kind.d out3)]
theorem Lf40_3 {r : (List Kind)} {a0 : List Int} {k0 : (List Kind) → Option ((List Kind))} {fu : Nat} {out3 : List Kind} {i4 : Int} {m0 : Nat} (hz : Sf40_3.ok p = true) (h0 : AtH Sf40_3 st (V2f40_3 a0 out3 i4 m0) (B2f40_3 a0 out3 i4 m0)) (em0 : m0 = List.length out3) (h : ∀ (n : Nat) (out3 : List Kind) (i4 : Int), f40_3b (f40_3 a0 k0 n) a0 k0 out3 i4 = some r → vc c p nid a (St.mk' Sf40_3 (Vf40_3 a0 out3 i4) (Bf40_3 a0 out3 i4)) (Kloop Sf40_3 (Yf40_3 a0) (Xf40_3 a0) (Jf40_3 a0 k0 r) Prod.fst (n + 1, out3, i4) K)) (hF : f40_3 a0 k0 fu out3 i4 = some r) : vc c p nid (.loop a) st K := by
  subst em0; refine vc_loop Sf40_3 (Yf40_3 a0) (Xf40_3 a0) (Jf40_3 a0 k0 r) Prod.fst hz (kheadL (x := (fu, out3, i4)) hF h0) ?_
  rintro ⟨_ | n, out3, i4⟩ hI
  · cases hI
  · exact h n out3 i4 hI
theorem Mf40_3 {r : (List Kind)} {a0 : List Int} {k0 : (List Kind) → Option ((List Kind))} {n : Nat} {out3 : List Kind} {i4 : Int} {out3_ : List Kind} {i4_ : Int} {m0 : Nat} (hF : f40_3 a0 k0 n out3 i4 = some r) (h0 : AtH Sf40_3 st (V2f40_3 a0 out3 i4 m0) (B2f40_3 a0 out3 i4 m0)) (em0 : m0 = List.length out3) : Kloop Sf40_3 (Yf40_3 a0) (Xf40_3 a0) (Jf40_3 a0 k0 r) Prod.fst (n + 1, out3_, i4_) K .normal st := by
  subst em0; exact kback (y := (n, out3, i4)) hF (Nat.lt_succ_self n) h0
def f40 (N : Nat) (a0 : List Int) : Option ((List Kind)) :=
 joinK f40_c6 fun k0 =>
 f40_3 a0 k0 N [] (0 : Int)
def G40 (ds : List D) (d : D) : Prop := ∃ (N : Nat) (a0 : List Int) (r : (List Kind)), ds = [sl_iN a0] ∧ f40 N a0 = some r ∧ d = sl_Kind r
theorem G40.step {N : Nat} {a0 : List Int} {ρ : Type} {A : (List Kind) → Option ρ} {q : ρ} {ds : List D} {K : D → Prop} (hd : ds = [sl_iN a0]) (h : ∀ r, A r = some q → K (sl_Kind r)) (hF : (f40 N a0).bind A = some q) : ∃ d, G40 ds d ∧ K d := by
  obtain ⟨r, hr, hA⟩ := bind_some hF
  exact ⟨_, ⟨N, a0, r, hd, hr, rfl⟩, h r hA⟩
set_option maxRecDepth 20000 in
set_option maxHeartbeats 4000000 in
theorem P40 : PureOK Try.prog 40 G40 := by
  refine pure_of_vc (c := mkCtx tyTree []) rfl tyOK (ctx_nil) [[3]] 1 Try.func40 rfl rfl (by decide) (by kernel_rfl) ?_
  rintro ds d ⟨N, a0, r, rfl, hF, rfl⟩ hok
  clear hok
  refine ⟨rfl, ?_⟩
  show vc _ _ _ _ ⟨[(0, .dat (sl_iN a0))], []⟩ _
  unfold f40 at hF
  repeat' (first
    | ((with_reducible refine q0 _ _ ?_); clear Q q0 q1 q2)
    | ((with_reducible refine q1 _ _ _ _ ?_); clear Q q0 q1 q2)
    | ((with_reducible refine q2 _ _ _ ?_); clear Q q0 q1 q2)
    | ((with_reducible refine seq_op ?hx (fun Q q0 q1 q2 => ?_)); (case hx => exact rfl); conv => whnf)
    | ((with_reducible refine draw_op ?hx (fun Q q0 q1 q2 => ?_)); (case hx => exact rfl); conv => whnf)
    | ((with_reducible refine cond_id ?_); (first | ((refine condKT rfl ?hy ?_); (case hy => first | assumption | exact notT (by assumption) | exact rfl)) | ((refine condKF rfl ?hy ?_); (case hy => first | assumption | exact notF (by assumption) | exact rfl)) | (revert hF; (with_reducible refine condF ?hx ?_ ?_); (case hx => exact rfl); all_goals (intro hc hF))))
    | ((with_reducible refine seq_nil ?_); (first | ((with_reducible refine hR _ ?_); clear R hR) | ((with_reducible refine hL _ ?_); clear L hL)))
    | ((with_reducible refine draw_nil ?_); (with_reducible refine hR _ _ ?hx ?_); (case hx => kernel_rfl); (first | clear R hR | clear hR))
    | ((with_reducible refine int_step ?_); conv => whnf)
    | ((with_reducible refine len_step ?_); conv => whnf)
    | ((with_reducible refine idx2 (by assumption) ?_); conv => whnf)
    | ((with_reducible refine idx3 (by assumption) ?_); conv => whnf)
    | with_reducible refine vc_block ?_
    | with_reducible refine vc_skip ?_
    | with_reducible refine vc_ret ?_
    | with_reducible refine vc_exit ?_
    | ((with_reducible refine vc_seqN [6] ?hx ?_); (case hx => exact rfl))
    | (with_reducible refine vc_region (fun R hR => ?_))
    | ((with_reducible refine vc_draw ?hx (fun R hR => ?_)); (case hx => exact rfl))
    | fail
    | (revert hF; (refine Cf40_c6 rfl rfl ?_ ?_); (intro hF); rotate_left; (intro out3 hF; unfold f40_c6 at hF); rotate_right)
    | exact Zf40_c6 hF ⟨_, rfl, rfl, rfl, rfl⟩ (by first | exact rfl | assumption | omega)
    | (revert hF; (refine Lf40_3 rfl ⟨_, rfl, rfl, rfl, rfl⟩ (by first | exact rfl | assumption | omega) ?_); intro n out3 i4 hF; unfold f40_3b at hF)
    | exact Mf40_3 hF ⟨_, rfl, rfl, rfl, rfl⟩ (by first | exact rfl | assumption | omega)
    | with_reducible refine k_seq_ret ?_
    | with_reducible refine k_seq_exit ?_
    | with_reducible refine k_blk ?_
    | with_reducible refine k_blk_ret ?_
    | with_reducible refine k_blk_here ?_
    | ((with_reducible refine k_blk_out ?hx ?_); (case hx => exact rfl))
    | with_reducible refine k_loop_ret ?_
    | with_reducible refine k_loop_exit ?_
    | (revert hF; (with_reducible refine idx1 ?hn ?_); (case hn => first | exact rfl | exact (List.length_map _) | assumption | omega | simp); intro x hx hF; conv => whnf)
    | ((with_reducible have hG := app_fact hF); clear hF; (first | ((refine app_row hG ?hn ?hs (fun q hF => ?_)); (case hn => first | exact rfl | assumption | omega); (case hs => exact rfl)) | ((refine app_nil (d := Kind.d) hG ?hs (fun q hF => ?_)); (case hs => exact rfl)) | ((refine app_gen (d := Kind.d) hG ?ho ?hn ?hs (fun q hF => ?_)); (case ho => exact rfl); (case hn => exact rfl); (case hs => exact rfl))); clear hG; conv => whnf)
    | ((refine row_all ?hn ?_); (case hn => first | exact rfl | (simp; done) | (simp; omega)); conv => whnf)
    | ((with_reducible refine le_step ?hn ?_); (case hn => first | exact rfl | assumption | omega); conv => whnf)
    | ((refine ⟨?hx, ?_⟩); (case hx => exact ⟨rfl, Nat.le_of_ble_eq_true rfl, rfl⟩); conv => whnf)
    | ((with_reducible refine ex_step ?_); conv => whnf)
    | ((with_reducible refine both_T ?hx ?_); (case hx => first | exact rfl | assumption | exact notT (by assumption)); conv => whnf)
    | ((with_reducible refine both_F ?hx ?_); (case hx => first | exact rfl | assumption | exact notF (by assumption)); conv => whnf)
    | (revert hF; (with_reducible refine ite_step ?_ ?_) <;> (intro hc hF; conv => whnf))
    | ((with_reducible refine vc_condT ?hx ?_); (case hx => exact rfl))
    | ((with_reducible refine vc_condF ?hx ?_); (case hx => exact rfl))
    | (show retD _ _ _ _ _ _; conv => whnf)
    | ((refine ⟨?hx, trivial⟩); (case hx => (cases hF; exact rfl)))
    | ((refine ⟨?hx, ?_⟩); (case hx => decide); conv => whnf)
    | ((with_reducible refine k_seq ?_))
    | (have hF : (none : Option _) = some _ := hF; cases hF))
end
end Go.Vc
namespace Go.Vc
open Go.Proofs
set_option linter.unusedVariables false
set_option linter.unnecessarySimpa false
set_option linter.unusedSimpArgs false
section
variable {c : Ctx} {p nid : Nat} {a b : Code} {st : St} {K : Ex → St → Prop}
/- f41: tusche/tuschelaw06.L -/
def f41 (N : Nat) : Option (Layout) :=
 (f42 N [(0 : Int), (0 : Int), (2 : Int), (4 : Int), (2 : Int), (0 : Int), (4 : Int), (2 : Int), (2 : Int), (2 : Int), (2 : Int), (2 : Int), (4 : Int), (2 : Int), (2 : Int), (2 : Int)]).bind fun x1 =>
 some ((Layout.mk (6 : Int) (4 : Int) x1))
def G41 (ds : List D) (d : D) : Prop := ∃ (N : Nat) (r : Layout), ds = [] ∧ f41 N  = some r ∧ d = Layout.d r
theorem G41.step {N : Nat} {ρ : Type} {A : Layout → Option ρ} {q : ρ} {ds : List D} {K : D → Prop} (hd : ds = []) (h : ∀ r, A r = some q → K (Layout.d r)) (hF : (f41 N ).bind A = some q) : ∃ d, G41 ds d ∧ K d := by
  obtain ⟨r, hr, hA⟩ := bind_some hF
  exact ⟨_, ⟨N, r, hd, hr, rfl⟩, h r hA⟩
set_option maxRecDepth 20000 in
set_option maxHeartbeats 4000000 in
theorem P41 : PureOK Try.prog 41 G41 := by
  refine pure_of_vc (c := mkCtx tyTree [(42, true, purePg [[1]] G42)]) rfl tyOK (ctx_cons (callable Try.func42 rfl rfl) P42 (ctx_nil)) [[0, 0, 4]] 0 Try.func41 rfl rfl (by decide) (by kernel_rfl) ?_
  rintro ds d ⟨N, r, rfl, hF, rfl⟩ hok
  clear hok
  refine ⟨rfl, ?_⟩
  show vc _ _ _ _ ⟨[], []⟩ _
  unfold f41 at hF
  repeat' (first
    | ((with_reducible refine q0 _ _ ?_); clear Q q0 q1 q2)
    | ((with_reducible refine q1 _ _ _ _ ?_); clear Q q0 q1 q2)
    | ((with_reducible refine q2 _ _ _ ?_); clear Q q0 q1 q2)
    | ((with_reducible refine seq_op ?hx (fun Q q0 q1 q2 => ?_)); (case hx => exact rfl); conv => whnf)
    | ((with_reducible refine seq_op0 ?hx (fun Q q0 q1 q2 => ?_)); (case hx => exact rfl); conv => whnf)
    | ((with_reducible refine seq_nil ?_); (first | ((with_reducible refine hR _ ?_); clear R hR) | ((with_reducible refine hL _ ?_); clear L hL)))
    | ((with_reducible refine int_step ?_); conv => whnf)
    | with_reducible refine vc_skip ?_
    | with_reducible refine vc_ret ?_
    | ((with_reducible refine vc_seqN [] ?hx ?_); (case hx => exact rfl))
    | (with_reducible refine vc_region (fun R hR => ?_))
    | fail
    | (revert hF; (with_reducible refine G42.step ?hx ?_); (case hx => exact rfl); intro v hF; conv => whnf)
    | with_reducible refine k_seq_ret ?_
    | ((refine row_all ?hn ?_); (case hn => first | exact rfl | (simp; done) | (simp; omega)); conv => whnf)
    | ((with_reducible refine le_step ?hn ?_); (case hn => first | exact rfl | assumption | omega); conv => whnf)
    | ((refine ⟨?hx, ?_⟩); (case hx => exact ⟨rfl, Nat.le_of_ble_eq_true rfl, rfl⟩); conv => whnf)
    | ((with_reducible refine ex_step ?_); conv => whnf)
    | ((with_reducible refine both_T ?hx ?_); (case hx => first | exact rfl | assumption | exact notT (by assumption)); conv => whnf)
    | ((with_reducible refine both_F ?hx ?_); (case hx => first | exact rfl | assumption | exact notF (by assumption)); conv => whnf)
    | (revert hF; (with_reducible refine ite_step ?_ ?_) <;> (intro hc hF; conv => whnf))
    | (show retD _ _ _ _ _ _; conv => whnf)
    | ((refine ⟨?hx, trivial⟩); (case hx => (cases hF; exact rfl)))
    | ((refine ⟨?hx, ?_⟩); (case hx => decide); conv => whnf)
    | ((with_reducible refine k_seq ?_))
    | (have hF : (none : Option _) = some _ := hF; cases hF))
end
end Go.Vc
namespace Go.Vc
open Go.Proofs
set_option linter.unusedVariables false
set_option linter.unnecessarySimpa false
set_option linter.unusedSimpArgs false
section
variable {c : Ctx} {p nid : Nat} {a b : Code} {st : St} {K : Ex → St → Prop}
/- f43: tusche/tuschelaw06.cuts -/
def f43_c8 : Option (Bool) :=
 some (true)
def Sf43_c8 : Ann := ⟨[], [], [], []⟩
def Vf43_c8 : List SV := []
def Bf43_c8 : List Blk := []
def Yf43_c8 (y : Unit) : List SV := Vf43_c8
def Xf43_c8 (y : Unit) : List Blk := Bf43_c8
def Jf43_c8 (r : Bool) (y : Unit) : Prop := f43_c8 = some r
theorem Cf43_c8 {r : Bool} {g : _ → Option (Bool)} (hn : Nat.beq (nid * 1000 + firstRegion b) 8 = true) (hz : Sf43_c8.ok p = true) (h : g f43_c8 = some r → vc c p nid a st (KHead Sf43_c8 Yf43_c8 Xf43_c8 (Jf43_c8 r) K)) (h2 : ∀ (_ : Unit), f43_c8 = some r → vc c p nid b (St.mk' Sf43_c8 Vf43_c8 Bf43_c8) K) (hF : joinK f43_c8 g = some r) : vc c p nid (.seq a b) st K :=
  vc_cut Sf43_c8 Yf43_c8 Xf43_c8 (Jf43_c8 r) hz (h hF) fun y hy => h2 () hy
theorem Zf43_c8 {r : Bool} (hF : f43_c8 = some r) (h0 : AtH Sf43_c8 st Vf43_c8 Bf43_c8) : KHead Sf43_c8 Yf43_c8 Xf43_c8 (Jf43_c8 r) K .normal st := by
  exact khead (I := (Jf43_c8 r)) (x := ()) hF h0
def f43_4b (r4 : Int → Option (Bool)) (a0 : List Cut) (a1 : List Cut) (k0 : Option (Bool)) (i5 : Int) : Option (Bool) :=
 bif decide (i5 < (List.length a0 : Int)) then ((ix a0 i5).bind fun x1 =>
 (ix a1 i5).bind fun x2 =>
 bif !((x1.Up == x2.Up) && (decide (x1.At = x2.At) && true)) then (some (false))
 else (r4 (W (i5 + (1 : Int)))))
 else k0
def f43_4 (a0 : List Cut) (a1 : List Cut) (k0 : Option (Bool)) : Nat → Int → Option (Bool)
  | 0, _ => none
  | n + 1, i5 => f43_4b (f43_4 a0 a1 k0 n) a0 a1 k0 i5
def Sf43_4 : Ann := ⟨[0, 1, 5], [], [], []⟩
def Vf43_4 (a0 : List Cut) (a1 : List Cut) (i5 : Int) : List SV := [.dat (sl_Cut a0), .dat (sl_Cut a1), .dat (iN i5)]
def Bf43_4 (a0 : List Cut) (a1 : List Cut) (i5 : Int) : List Blk := []
def Yf43_4 (a0 : List Cut) (a1 : List Cut) (y : Nat × Int) : List SV := Vf43_4 a0 a1 y.2
def Xf43_4 (a0 : List Cut) (a1 : List Cut) (y : Nat × Int) : List Blk := Bf43_4 a0 a1 y.2
def Jf43_4 (a0 : List Cut) (a1 : List Cut) (k0 : Option (Bool)) (r : Bool) (y : Nat × Int) : Prop := f43_4 a0 a1 k0 y.1 y.2 = some r
theorem Lf43_4 {r : Bool} {a0 : List Cut} {a1 : List Cut} {k0 : Option (Bool)} {fu : Nat} {i5 : Int} (hz : Sf43_4.ok p = true) (h0 : AtH Sf43_4 st (Vf43_4 a0 a1 i5) (Bf43_4 a0 a1 i5)) (h : ∀ (n : Nat) (i5 : Int), f43_4b (f43_4 a0 a1 k0 n) a0 a1 k0 i5 = some r → vc c p nid a (St.mk' Sf43_4 (Vf43_4 a0 a1 i5) (Bf43_4 a0 a1 i5)) (Kloop Sf43_4 (Yf43_4 a0 a1) (Xf43_4 a0 a1) (Jf43_4 a0 a1 k0 r) Prod.fst (n + 1, i5) K)) (hF : f43_4 a0 a1 k0 fu i5 = some r) : vc c p nid (.loop a) st K := by
  refine vc_loop Sf43_4 (Yf43_4 a0 a1) (Xf43_4 a0 a1) (Jf43_4 a0 a1 k0 r) Prod.fst hz (kheadL (x := (fu, i5)) hF h0) ?_
  rintro ⟨_ | n, i5⟩ hI
  · cases hI
  · exact h n i5 hI
theorem Mf43_4 {r : Bool} {a0 : List Cut} {a1 : List Cut} {k0 : Option (Bool)} {n : Nat} {i5 : Int} {i5_ : Int} (hF : f43_4 a0 a1 k0 n i5 = some r) (h0 : AtH Sf43_4 st (Vf43_4 a0 a1 i5) (Bf43_4 a0 a1 i5)) : Kloop Sf43_4 (Yf43_4 a0 a1) (Xf43_4 a0 a1) (Jf43_4 a0 a1 k0 r) Prod.fst (n + 1, i5_) K .normal st := by
  exact kback (y := (n, i5)) hF (Nat.lt_succ_self n) h0
def f43 (N : Nat) (a0 : List Cut) (a1 : List Cut) : Option (Bool) :=
 bif decide (¬ (List.length a0 : Int) = (List.length a1 : Int)) then (some (false))
 else (joinK f43_c8 fun k0 =>
 f43_4 a0 a1 k0 N (0 : Int))
def G43 (ds : List D) (d : D) : Prop := ∃ (N : Nat) (a0 : List Cut) (a1 : List Cut) (r : Bool), ds = [sl_Cut a0, sl_Cut a1] ∧ f43 N a0 a1 = some r ∧ d = bN r
theorem G43.step {N : Nat} {a0 : List Cut} {a1 : List Cut} {ρ : Type} {A : Bool → Option ρ} {q : ρ} {ds : List D} {K : D → Prop} (hd : ds = [sl_Cut a0, sl_Cut a1]) (h : ∀ r, A r = some q → K (bN r)) (hF : (f43 N a0 a1).bind A = some q) : ∃ d, G43 ds d ∧ K d := by
  obtain ⟨r, hr, hA⟩ := bind_some hF
  exact ⟨_, ⟨N, a0, a1, r, hd, hr, rfl⟩, h r hA⟩
set_option maxRecDepth 20000 in
set_option maxHeartbeats 4000000 in
theorem P43 : PureOK Try.prog 43 G43 := by
  refine pure_of_vc (c := mkCtx tyTree []) rfl tyOK (ctx_nil) [[0]] 2 Try.func43 rfl rfl (by decide) (by kernel_rfl) ?_
  rintro ds d ⟨N, a0, a1, r, rfl, hF, rfl⟩ hok
  clear hok
  refine ⟨rfl, ?_⟩
  show vc _ _ _ _ ⟨[(0, .dat (sl_Cut a0)), (1, .dat (sl_Cut a1))], []⟩ _
  unfold f43 at hF
  repeat' (first
    | ((with_reducible refine q0 _ _ ?_); clear Q q0 q1 q2)
    | ((with_reducible refine q1 _ _ _ _ ?_); clear Q q0 q1 q2)
    | ((with_reducible refine q2 _ _ _ ?_); clear Q q0 q1 q2)
    | ((with_reducible refine seq_op ?hx (fun Q q0 q1 q2 => ?_)); (case hx => exact rfl); conv => whnf)
    | ((with_reducible refine draw_op ?hx (fun Q q0 q1 q2 => ?_)); (case hx => exact rfl); conv => whnf)
    | ((with_reducible refine cond_id ?_); (first | ((refine condKT rfl ?hy ?_); (case hy => first | assumption | exact notT (by assumption) | exact rfl)) | ((refine condKF rfl ?hy ?_); (case hy => first | assumption | exact notF (by assumption) | exact rfl)) | (revert hF; (with_reducible refine condF ?hx ?_ ?_); (case hx => exact rfl); all_goals (intro hc hF))))
    | ((with_reducible refine seq_nil ?_); (first | ((with_reducible refine hR _ ?_); clear R hR) | ((with_reducible refine hL _ ?_); clear L hL)))
    | ((with_reducible refine draw_nil ?_); (with_reducible refine hR _ _ ?hx ?_); (case hx => kernel_rfl); (first | clear R hR | clear hR))
    | ((with_reducible refine int_step ?_); conv => whnf)
    | ((with_reducible refine len_step ?_); conv => whnf)
    | ((with_reducible refine idx2 (by assumption) ?_); conv => whnf)
    | ((with_reducible refine idx3 (by assumption) ?_); conv => whnf)
    | with_reducible refine vc_block ?_
    | with_reducible refine vc_skip ?_
    | with_reducible refine vc_ret ?_
    | with_reducible refine vc_exit ?_
    | ((with_reducible refine vc_seqN [8] ?hx ?_); (case hx => exact rfl))
    | (with_reducible refine vc_region (fun R hR => ?_))
    | ((with_reducible refine vc_draw ?hx (fun R hR => ?_)); (case hx => exact rfl))
    | fail
    | (revert hF; (refine Cf43_c8 rfl rfl ?_ ?_); (intro hF); rotate_left; (intro _ hF; unfold f43_c8 at hF); rotate_right)
    | exact Zf43_c8 hF ⟨_, rfl, rfl, rfl, rfl⟩
    | (revert hF; (refine Lf43_4 rfl ⟨_, rfl, rfl, rfl, rfl⟩ ?_); intro n i5 hF; unfold f43_4b at hF)
    | exact Mf43_4 hF ⟨_, rfl, rfl, rfl, rfl⟩
    | with_reducible refine k_seq_ret ?_
    | with_reducible refine k_seq_exit ?_
    | with_reducible refine k_blk ?_
    | with_reducible refine k_blk_ret ?_
    | with_reducible refine k_blk_here ?_
    | ((with_reducible refine k_blk_out ?hx ?_); (case hx => exact rfl))
    | with_reducible refine k_loop_ret ?_
    | with_reducible refine k_loop_exit ?_
    | (revert hF; (with_reducible refine idx1 ?hn ?_); (case hn => first | exact rfl | exact (List.length_map _) | assumption | omega | simp); intro x hx hF; conv => whnf)
    | ((refine row_all ?hn ?_); (case hn => first | exact rfl | (simp; done) | (simp; omega)); conv => whnf)
    | ((with_reducible refine le_step ?hn ?_); (case hn => first | exact rfl | assumption | omega); conv => whnf)
    | ((refine ⟨?hx, ?_⟩); (case hx => exact ⟨rfl, Nat.le_of_ble_eq_true rfl, rfl⟩); conv => whnf)
    | ((with_reducible refine ex_step ?_); conv => whnf)
    | ((with_reducible refine both_T ?hx ?_); (case hx => first | exact rfl | assumption | exact notT (by assumption)); conv => whnf)
    | ((with_reducible refine both_F ?hx ?_); (case hx => first | exact rfl | assumption | exact notF (by assumption)); conv => whnf)
    | (revert hF; (with_reducible refine ite_step ?_ ?_) <;> (intro hc hF; conv => whnf))
    | ((with_reducible refine vc_condT ?hx ?_); (case hx => exact rfl))
    | ((with_reducible refine vc_condF ?hx ?_); (case hx => exact rfl))
    | (show retD _ _ _ _ _ _; conv => whnf)
    | ((refine ⟨?hx, trivial⟩); (case hx => (cases hF; exact rfl)))
    | ((refine ⟨?hx, ?_⟩); (case hx => decide); conv => whnf)
    | ((with_reducible refine k_seq ?_))
    | (have hF : (none : Option _) = some _ := hF; cases hF))
end
end Go.Vc
namespace Go.Vc
open Go.Proofs
set_option linter.unusedVariables false
set_option linter.unnecessarySimpa false
set_option linter.unusedSimpArgs false
section
variable {c : Ctx} {p nid : Nat} {a b : Code} {st : St} {K : Ex → St → Prop}
/- f13: tusche/tuschelaw06.works -/
def f13 (N : Nat) : Option (Bool) :=
 (f41 N ).bind fun x1 =>
 (f15 N x1).bind fun x2 =>
 (f41 N ).bind fun x3 =>
 (f22 N x3).bind fun x4 =>
 (f39 N ).bind fun x5 =>
 (f22 N x5).bind fun x6 =>
 (f39 N ).bind fun x7 =>
 (f24 N x7).bind fun x8 =>
 (f40 N [(2 : Int), (2 : Int), (3 : Int), (3 : Int), (1 : Int), (2 : Int)]).bind fun x9 =>
 (f29 N (5 : Int) (4 : Int) x9).bind fun x10 =>
 (f41 N ).bind fun x11 =>
 (f40 N [(2 : Int), (2 : Int), (3 : Int), (2 : Int), (4 : Int), (5 : Int), (4 : Int), (2 : Int), (1 : Int)]).bind fun x12 =>
 (f17 N x11 x12).bind fun x13 =>
 (f40 N [(2 : Int), (2 : Int), (3 : Int), (3 : Int), (1 : Int), (2 : Int)]).bind fun x14 =>
 (f31 N (5 : Int) (4 : Int) x14).bind fun x15 =>
 bif decide (¬ x2.2 = (0 : Int)) then (some (false))
 else (bif decide (¬ x4.2 = (0 : Int)) then (some (false))
 else (bif decide (¬ x6.2 = (14 : Int)) then (some (false))
 else (bif decide (¬ x8.2 = (0 : Int)) then (some (false))
 else (bif decide (¬ x10.2 = (0 : Int)) then (some (false))
 else (bif decide (¬ x13.2 = (0 : Int)) then (some (false))
 else (bif decide (¬ x15.2 = (0 : Int)) then (some (false))
 else ((f40 N [(2 : Int), (2 : Int), (3 : Int), (3 : Int), (1 : Int), (2 : Int)]).bind fun x16 =>
 (f17 N x15.1 x16).bind fun x17 =>
 bif decide (x17.2 = (0 : Int)) then (bif decide (x17.1 = (14 : Int)) then ((f43 N x2.1 [(Cut.mk true (2 : Int))]).bind fun x18 =>
 bif x18 then (bif decide ((List.length x4.1 : Int) = (3 : Int)) then ((f41 N ).bind fun x19 =>
 (f25 N x19 x4.1).bind fun x20 =>
 bif decide (x20 = (0 : Int)) then (bif (decide (x8.1.X = (0 : Int)) && (decide (x8.1.Y = (0 : Int)) && (decide (x8.1.W = (3 : Int)) && (decide (x8.1.H = (3 : Int)) && true)))) then (bif decide (x10.1 = (14 : Int)) then (bif decide (x13.1 = (12 : Int)) then ((f41 N ).bind fun x21 =>
 (f25 N x21 [(Cut.mk true (2 : Int)), (Cut.mk false (2 : Int))]).bind fun x22 =>
 bif decide (x22 = (22 : Int)) then ((f41 N ).bind fun x23 =>
 (f25 N x23 [(Cut.mk true (3 : Int))]).bind fun x24 =>
 some (decide (x24 = (13 : Int))))
 else (some (false)))
 else (some (false)))
 else (some (false)))
 else (some (false)))
 else (some (false)))
 else (some (false)))
 else (some (false)))
 else (some (false)))
 else (some (false)))))))))
def G13 (ds : List D) (d : D) : Prop := ∃ (N : Nat) (r : Bool), ds = [] ∧ f13 N  = some r ∧ d = bN r
theorem G13.step {N : Nat} {ρ : Type} {A : Bool → Option ρ} {q : ρ} {ds : List D} {K : D → Prop} (hd : ds = []) (h : ∀ r, A r = some q → K (bN r)) (hF : (f13 N ).bind A = some q) : ∃ d, G13 ds d ∧ K d := by
  obtain ⟨r, hr, hA⟩ := bind_some hF
  exact ⟨_, ⟨N, r, hd, hr, rfl⟩, h r hA⟩
set_option maxRecDepth 20000 in
set_option maxHeartbeats 4000000 in
theorem P13 : PureOK Try.prog 13 G13 := by
  refine pure_of_vc (c := mkCtx tyTree [(43, true, purePg [[2], [2]] G43), (41, true, purePg [] G41), (40, true, purePg [[1]] G40), (39, true, purePg [] G39), (31, true, purePg [[0], [0], [3]] G31), (29, true, purePg [[0], [0], [3]] G29), (25, true, purePg [[0, 0, 4], [2]] G25), (24, true, purePg [[0, 0, 4]] G24), (22, true, purePg [[0, 0, 4]] G22), (17, true, purePg [[0, 0, 4], [3]] G17), (15, true, purePg [[0, 0, 4]] G15)]) rfl tyOK (ctx_cons (callable Try.func43 rfl rfl) P43 (ctx_cons (callable Try.func41 rfl rfl) P41 (ctx_cons (callable Try.func40 rfl rfl) P40 (ctx_cons (callable Try.func39 rfl rfl) P39 (ctx_cons (callable Try.func31 rfl rfl) P31 (ctx_cons (callable Try.func29 rfl rfl) P29 (ctx_cons (callable Try.func25 rfl rfl) P25 (ctx_cons (callable Try.func24 rfl rfl) P24 (ctx_cons (callable Try.func22 rfl rfl) P22 (ctx_cons (callable Try.func17 rfl rfl) P17 (ctx_cons (callable Try.func15 rfl rfl) P15 (ctx_nil)))))))))))) [[0]] 0 Try.func13 rfl rfl (by decide) (by kernel_rfl) ?_
  rintro ds d ⟨N, r, rfl, hF, rfl⟩ hok
  clear hok
  refine ⟨rfl, ?_⟩
  show vc _ _ _ _ ⟨[], []⟩ _
  unfold f13 at hF
  repeat' (first
    | ((with_reducible refine q0 _ _ ?_); clear Q q0 q1 q2)
    | ((with_reducible refine q1 _ _ _ _ ?_); clear Q q0 q1 q2)
    | ((with_reducible refine q2 _ _ _ ?_); clear Q q0 q1 q2)
    | ((with_reducible refine seq_op ?hx (fun Q q0 q1 q2 => ?_)); (case hx => exact rfl); conv => whnf)
    | ((with_reducible refine draw_op ?hx (fun Q q0 q1 q2 => ?_)); (case hx => exact rfl); conv => whnf)
    | ((with_reducible refine seq_op0 ?hx (fun Q q0 q1 q2 => ?_)); (case hx => exact rfl); conv => whnf)
    | ((with_reducible refine draw_op0 ?hx (fun Q q0 q1 q2 => ?_)); (case hx => exact rfl); conv => whnf)
    | ((with_reducible refine seq_off ?hx ?_); (case hx => exact rfl))
    | ((with_reducible refine seq_off0 ?hx ?_); (case hx => exact rfl))
    | ((with_reducible refine draw_off ?hx ?_); (case hx => exact rfl))
    | ((with_reducible refine draw_off0 ?hx ?_); (case hx => exact rfl))
    | ((with_reducible refine seq_id ?_); (first | ((refine seq_opK rfl ?hy (fun Q q0 q1 q2 => ?_)); (case hy => first | assumption | exact notT (by assumption) | exact rfl); conv => whnf) | ((refine seq_offK rfl ?hy ?_); (case hy => first | assumption | exact notF (by assumption) | exact rfl)) | ((refine seq_opK0 rfl ?hy (fun Q q0 q1 q2 => ?_)); (case hy => first | assumption | exact notT (by assumption) | exact rfl); conv => whnf) | ((refine seq_offK0 rfl ?hy ?_); (case hy => first | assumption | exact notF (by assumption) | exact rfl)) | (revert hF; (with_reducible refine seq_opF ?hx ?_ ?_); (case hx => exact rfl); (intro hc hF Q q0 q1 q2; conv => whnf); rotate_left; (intro hc hF); rotate_right) | (revert hF; (with_reducible refine seq_opN ?hx ?_ ?_); (case hx => exact rfl); (intro hc hF); rotate_left; (intro hc hF Q q0 q1 q2; conv => whnf); rotate_right) | (revert hF; (with_reducible refine seq_opF0 ?hx ?_ ?_); (case hx => exact rfl); (intro hc hF Q q0 q1 q2; conv => whnf); rotate_left; (intro hc hF); rotate_right) | (revert hF; (with_reducible refine seq_opN0 ?hx ?_ ?_); (case hx => exact rfl); (intro hc hF); rotate_left; (intro hc hF Q q0 q1 q2; conv => whnf); rotate_right)))
    | ((with_reducible refine draw_id ?_); (first | ((refine draw_opK rfl ?hy (fun Q q0 q1 q2 => ?_)); (case hy => first | assumption | exact notT (by assumption) | exact rfl); conv => whnf) | ((refine draw_offK rfl ?hy ?_); (case hy => first | assumption | exact notF (by assumption) | exact rfl)) | ((refine draw_opK0 rfl ?hy (fun Q q0 q1 q2 => ?_)); (case hy => first | assumption | exact notT (by assumption) | exact rfl); conv => whnf) | ((refine draw_offK0 rfl ?hy ?_); (case hy => first | assumption | exact notF (by assumption) | exact rfl)) | (revert hF; (with_reducible refine draw_opF ?hx ?_ ?_); (case hx => exact rfl); (intro hc hF Q q0 q1 q2; conv => whnf); rotate_left; (intro hc hF); rotate_right) | (revert hF; (with_reducible refine draw_opN ?hx ?_ ?_); (case hx => exact rfl); (intro hc hF); rotate_left; (intro hc hF Q q0 q1 q2; conv => whnf); rotate_right) | (revert hF; (with_reducible refine draw_opF0 ?hx ?_ ?_); (case hx => exact rfl); (intro hc hF Q q0 q1 q2; conv => whnf); rotate_left; (intro hc hF); rotate_right) | (revert hF; (with_reducible refine draw_opN0 ?hx ?_ ?_); (case hx => exact rfl); (intro hc hF); rotate_left; (intro hc hF Q q0 q1 q2; conv => whnf); rotate_right)))
    | ((with_reducible refine cond_id ?_); (first | ((refine condKT rfl ?hy ?_); (case hy => first | assumption | exact notT (by assumption) | exact rfl)) | ((refine condKF rfl ?hy ?_); (case hy => first | assumption | exact notF (by assumption) | exact rfl)) | (revert hF; (with_reducible refine condF ?hx ?_ ?_); (case hx => exact rfl); all_goals (intro hc hF))))
    | ((with_reducible refine seq_nil ?_); (first | ((with_reducible refine hR _ ?_); clear R hR) | ((with_reducible refine hL _ ?_); clear L hL)))
    | ((with_reducible refine draw_nil ?_); (with_reducible refine hR _ _ ?hx ?_); (case hx => kernel_rfl); (first | clear R hR | clear hR))
    | ((with_reducible refine int_step ?_); conv => whnf)
    | ((with_reducible refine len_step ?_); conv => whnf)
    | with_reducible refine vc_block ?_
    | with_reducible refine vc_skip ?_
    | with_reducible refine vc_ret ?_
    | with_reducible refine vc_exit ?_
    | ((with_reducible refine vc_seqN [] ?hx ?_); (case hx => exact rfl))
    | (with_reducible refine vc_region (fun R hR => ?_))
    | ((with_reducible refine vc_draw ?hx (fun R hR => ?_)); (case hx => exact rfl))
    | fail
    | (revert hF; (with_reducible refine G15.step ?hx ?_); (case hx => exact rfl); intro v hF; conv => whnf)
    | (revert hF; (with_reducible refine G17.step ?hx ?_); (case hx => exact rfl); intro v hF; conv => whnf)
    | (revert hF; (with_reducible refine G22.step ?hx ?_); (case hx => exact rfl); intro v hF; conv => whnf)
    | (revert hF; (with_reducible refine G24.step ?hx ?_); (case hx => exact rfl); intro v hF; conv => whnf)
    | (revert hF; (with_reducible refine G25.step ?hx ?_); (case hx => exact rfl); intro v hF; conv => whnf)
    | (revert hF; (with_reducible refine G29.step ?hx ?_); (case hx => exact rfl); intro v hF; conv => whnf)
    | (revert hF; (with_reducible refine G31.step ?hx ?_); (case hx => exact rfl); intro v hF; conv => whnf)
    | (revert hF; (with_reducible refine G39.step ?hx ?_); (case hx => exact rfl); intro v hF; conv => whnf)
    | (revert hF; (with_reducible refine G40.step ?hx ?_); (case hx => exact rfl); intro v hF; conv => whnf)
    | (revert hF; (with_reducible refine G41.step ?hx ?_); (case hx => exact rfl); intro v hF; conv => whnf)
    | (revert hF; (with_reducible refine G43.step ?hx ?_); (case hx => exact rfl); intro v hF; conv => whnf)
    | with_reducible refine k_seq_ret ?_
    | with_reducible refine k_seq_exit ?_
    | with_reducible refine k_blk ?_
    | with_reducible refine k_blk_ret ?_
    | with_reducible refine k_blk_here ?_
    | ((with_reducible refine k_blk_out ?hx ?_); (case hx => exact rfl))
    | ((refine row_all ?hn ?_); (case hn => first | exact rfl | (simp; done) | (simp; omega)); conv => whnf)
    | ((with_reducible refine le_step ?hn ?_); (case hn => first | exact rfl | assumption | omega); conv => whnf)
    | ((refine ⟨?hx, ?_⟩); (case hx => exact ⟨rfl, Nat.le_of_ble_eq_true rfl, rfl⟩); conv => whnf)
    | ((with_reducible refine ex_step ?_); conv => whnf)
    | ((with_reducible refine both_T ?hx ?_); (case hx => first | exact rfl | assumption | exact notT (by assumption)); conv => whnf)
    | ((with_reducible refine both_F ?hx ?_); (case hx => first | exact rfl | assumption | exact notF (by assumption)); conv => whnf)
    | (revert hF; (with_reducible refine ite_step ?_ ?_) <;> (intro hc hF; conv => whnf))
    | ((with_reducible refine vc_condT ?hx ?_); (case hx => exact rfl))
    | ((with_reducible refine vc_condF ?hx ?_); (case hx => exact rfl))
    | (show retD _ _ _ _ _ _; conv => whnf)
    | ((refine ⟨?hx, trivial⟩); (case hx => (cases hF; exact rfl)))
    | ((refine ⟨?hx, ?_⟩); (case hx => decide); conv => whnf)
    | ((with_reducible refine k_seq ?_))
    | (have hF : (none : Option _) = some _ := hF; cases hF))
end
end Go.Vc
namespace Go.Vc
open Go.Proofs
set_option linter.unusedVariables false
set_option linter.unnecessarySimpa false
set_option linter.unusedSimpArgs false
section
variable {c : Ctx} {p nid : Nat} {a b : Code} {st : St} {K : Ex → St → Prop}
/- f14: tusche/tuschelaw06.given -/
def f14_c6 (a0 : Layout) (b105_2 : List Label) : Option (Layout) :=
 some ((Layout.mk a0.W a0.H b105_2))
def Sf14_c6 : Ann := ⟨[2, 3], [1, 105, 90500], [(.cell 105 2, 90500, 57, 4)], []⟩
def Vf14_c6 (a0 : Layout) (b105_2 : List Label) : List SV := [.ptr 1 0, .ptr 105 0]
def Bf14_c6 (a0 : Layout) (b105_2 : List Label) : List Blk := [.box [.dat (iN (0 : Int)), .dat (iN (0 : Int)), .nil], .box [.dat (iN a0.W), .dat (iN a0.H), .rs 90500 (List.length b105_2)], .row 57 4 (List.map Label.d b105_2)]
def Yf14_c6 (a0 : Layout) (y : (List Label)) : List SV := Vf14_c6 a0 y
def Xf14_c6 (a0 : Layout) (y : (List Label)) : List Blk := Bf14_c6 a0 y
def Jf14_c6 (a0 : Layout) (r : Layout) (y : (List Label)) : Prop := f14_c6 a0 y = some r
def V2f14_c6 (a0 : Layout) (b105_2 : List Label) (m0 : Nat) : List SV := [.ptr 1 0, .ptr 105 0]
def B2f14_c6 (a0 : Layout) (b105_2 : List Label) (m0 : Nat) : List Blk := [.box [.dat (iN (0 : Int)), .dat (iN (0 : Int)), .nil], .box [.dat (iN a0.W), .dat (iN a0.H), .rs 90500 m0], .row 57 4 (List.map Label.d b105_2)]
theorem Cf14_c6 {r : Layout} {a0 : Layout} {g : _ → Option (Layout)} (hn : Nat.beq (nid * 1000 + firstRegion b) 6 = true) (hz : Sf14_c6.ok p = true) (h : g (f14_c6 a0) = some r → vc c p nid a st (KHead Sf14_c6 (Yf14_c6 a0) (Xf14_c6 a0) (Jf14_c6 a0 r) K)) (h2 : ∀ (b105_2 : List Label), f14_c6 a0 b105_2 = some r → vc c p nid b (St.mk' Sf14_c6 (Vf14_c6 a0 b105_2) (Bf14_c6 a0 b105_2)) K) (hF : joinK (f14_c6 a0) g = some r) : vc c p nid (.seq a b) st K :=
  vc_cut Sf14_c6 (Yf14_c6 a0) (Xf14_c6 a0) (Jf14_c6 a0 r) hz (h hF) fun y hy => h2 y hy
theorem Zf14_c6 {r : Layout} {a0 : Layout} {b105_2 : List Label} {m0 : Nat} (hF : f14_c6 a0 b105_2 = some r) (h0 : AtH Sf14_c6 st (V2f14_c6 a0 b105_2 m0) (B2f14_c6 a0 b105_2 m0)) (em0 : m0 = List.length b105_2) : KHead Sf14_c6 (Yf14_c6 a0) (Xf14_c6 a0) (Jf14_c6 a0 r) K .normal st := by
  subst em0; exact khead (I := (Jf14_c6 a0 r)) (x := (b105_2)) hF h0
def f14_3b (r3 : Int → (List Label) → Option (Layout)) (a0 : Layout) (k0 : (List Label) → Option (Layout)) (i4 : Int) (b105_2 : List Label) : Option (Layout) :=
 bif decide (i4 < (List.length a0.Labels : Int)) then ((ix a0.Labels i4).bind fun x1 =>
 (app 32 b105_2 [x1]).bind fun x2 =>
 r3 (W (i4 + (1 : Int))) x2)
 else (k0 b105_2)
def f14_3 (a0 : Layout) (k0 : (List Label) → Option (Layout)) : Nat → Int → (List Label) → Option (Layout)
  | 0, _, _ => none
  | n + 1, i4, b105_2 => f14_3b (f14_3 a0 k0 n) a0 k0 i4 b105_2
def Sf14_3 : Ann := ⟨[1, 2, 3, 4], [0, 1, 105, 90500], [(.cell 105 2, 90500, 57, 4)], []⟩
def Vf14_3 (a0 : Layout) (i4 : Int) (b105_2 : List Label) : List SV := [.ptr 0 0, .ptr 1 0, .ptr 105 0, .dat (iN i4)]
def Bf14_3 (a0 : Layout) (i4 : Int) (b105_2 : List Label) : List Blk := [.box [.dat (iN a0.W), .dat (iN a0.H), .dat (sl_Label a0.Labels)], .box [.dat (iN (0 : Int)), .dat (iN (0 : Int)), .nil], .box [.dat (iN a0.W), .dat (iN a0.H), .rs 90500 (List.length b105_2)], .row 57 4 (List.map Label.d b105_2)]
def Yf14_3 (a0 : Layout) (y : Nat × Int × (List Label)) : List SV := Vf14_3 a0 y.2.1 y.2.2
def Xf14_3 (a0 : Layout) (y : Nat × Int × (List Label)) : List Blk := Bf14_3 a0 y.2.1 y.2.2
def Jf14_3 (a0 : Layout) (k0 : (List Label) → Option (Layout)) (r : Layout) (y : Nat × Int × (List Label)) : Prop := f14_3 a0 k0 y.1 y.2.1 y.2.2 = some r
def V2f14_3 (a0 : Layout) (i4 : Int) (b105_2 : List Label) (m0 : Nat) : List SV := [.ptr 0 0, .ptr 1 0, .ptr 105 0, .dat (iN i4)]
def B2f14_3 (a0 : Layout) (i4 : Int) (b105_2 : List Label) (m0 : Nat) : List Blk := [.box [.dat (iN a0.W), .dat (iN a0.H), .dat (sl_Label a0.Labels)], .box [.dat (iN (0 : Int)), .dat (iN (0 : Int)), .nil], .box [.dat (iN a0.W), .dat (iN a0.H), .rs 90500 m0], .row 57 4 (List.map Label.d b105_2)]
theorem Lf14_3 {r : Layout} {a0 : Layout} {k0 : (List Label) → Option (Layout)} {fu : Nat} {i4 : Int} {b105_2 : List Label} {m0 : Nat} (hz : Sf14_3.ok p = true) (h0 : AtH Sf14_3 st (V2f14_3 a0 i4 b105_2 m0) (B2f14_3 a0 i4 b105_2 m0)) (em0 : m0 = List.length b105_2) (h : ∀ (n : Nat) (i4 : Int) (b105_2 : List Label), f14_3b (f14_3 a0 k0 n) a0 k0 i4 b105_2 = some r → vc c p nid a (St.mk' Sf14_3 (Vf14_3 a0 i4 b105_2) (Bf14_3 a0 i4 b105_2)) (Kloop Sf14_3 (Yf14_3 a0) (Xf14_3 a0) (Jf14_3 a0 k0 r) Prod.fst (n + 1, i4, b105_2) K)) (hF : f14_3 a0 k0 fu i4 b105_2 = some r) : vc c p nid (.loop a) st K := by
  subst em0; refine vc_loop Sf14_3 (Yf14_3 a0) (Xf14_3 a0) (Jf14_3 a0 k0 r) Prod.fst hz (kheadL (x := (fu, i4, b105_2)) hF h0) ?_
  rintro ⟨_ | n, i4, b105_2⟩ hI
  · cases hI
  · exact h n i4 b105_2 hI
theorem Mf14_3 {r : Layout} {a0 : Layout} {k0 : (List Label) → Option (Layout)} {n : Nat} {i4 : Int} {b105_2 : List Label} {i4_ : Int} {b105_2_ : List Label} {m0 : Nat} (hF : f14_3 a0 k0 n i4 b105_2 = some r) (h0 : AtH Sf14_3 st (V2f14_3 a0 i4 b105_2 m0) (B2f14_3 a0 i4 b105_2 m0)) (em0 : m0 = List.length b105_2) : Kloop Sf14_3 (Yf14_3 a0) (Xf14_3 a0) (Jf14_3 a0 k0 r) Prod.fst (n + 1, i4_, b105_2_) K .normal st := by
  subst em0; exact kback (y := (n, i4, b105_2)) hF (Nat.lt_succ_self n) h0
def f14 (N : Nat) (a0 : Layout) : Option (Layout) :=
 joinK (f14_c6 a0) fun k0 =>
 f14_3 a0 k0 N (0 : Int) []
def G14 (ds : List D) (d : D) : Prop := ∃ (N : Nat) (a0 : Layout) (r : Layout), ds = [Layout.d a0] ∧ f14 N a0 = some r ∧ d = Layout.d r
theorem G14.step {N : Nat} {a0 : Layout} {ρ : Type} {A : Layout → Option ρ} {q : ρ} {ds : List D} {K : D → Prop} (hd : ds = [Layout.d a0]) (h : ∀ r, A r = some q → K (Layout.d r)) (hF : (f14 N a0).bind A = some q) : ∃ d, G14 ds d ∧ K d := by
  obtain ⟨r, hr, hA⟩ := bind_some hF
  exact ⟨_, ⟨N, a0, r, hd, hr, rfl⟩, h r hA⟩
set_option maxRecDepth 20000 in
set_option maxHeartbeats 4000000 in
theorem P14 : PureOK Try.prog 14 G14 := by
  refine pure_of_vc (c := mkCtx tyTree []) rfl tyOK (ctx_nil) [[0, 0, 4]] 1 Try.func14 rfl rfl (by decide) (by kernel_rfl) ?_
  rintro ds d ⟨N, a0, r, rfl, hF, rfl⟩ hok
  clear hok
  refine ⟨rfl, ?_⟩
  show vc _ _ _ _ ⟨[(0, .dat (Layout.d a0))], []⟩ _
  unfold f14 at hF
  repeat' (first
    | ((with_reducible refine q0 _ _ ?_); clear Q q0 q1 q2)
    | ((with_reducible refine q1 _ _ _ _ ?_); clear Q q0 q1 q2)
    | ((with_reducible refine q2 _ _ _ ?_); clear Q q0 q1 q2)
    | ((with_reducible refine seq_op ?hx (fun Q q0 q1 q2 => ?_)); (case hx => exact rfl); conv => whnf)
    | ((with_reducible refine draw_op ?hx (fun Q q0 q1 q2 => ?_)); (case hx => exact rfl); conv => whnf)
    | ((with_reducible refine seq_op0 ?hx (fun Q q0 q1 q2 => ?_)); (case hx => exact rfl); conv => whnf)
    | ((with_reducible refine draw_op0 ?hx (fun Q q0 q1 q2 => ?_)); (case hx => exact rfl); conv => whnf)
    | ((with_reducible refine cond_id ?_); (first | ((refine condKT rfl ?hy ?_); (case hy => first | assumption | exact notT (by assumption) | exact rfl)) | ((refine condKF rfl ?hy ?_); (case hy => first | assumption | exact notF (by assumption) | exact rfl)) | (revert hF; (with_reducible refine condF ?hx ?_ ?_); (case hx => exact rfl); all_goals (intro hc hF))))
    | ((with_reducible refine seq_nil ?_); (first | ((with_reducible refine hR _ ?_); clear R hR) | ((with_reducible refine hL _ ?_); clear L hL)))
    | ((with_reducible refine draw_nil ?_); (with_reducible refine hR _ _ ?hx ?_); (case hx => kernel_rfl); (first | clear R hR | clear hR))
    | ((with_reducible refine int_step ?_); conv => whnf)
    | ((with_reducible refine len_step ?_); conv => whnf)
    | ((with_reducible refine idx2 (by assumption) ?_); conv => whnf)
    | ((with_reducible refine idx3 (by assumption) ?_); conv => whnf)
    | with_reducible refine vc_block ?_
    | with_reducible refine vc_skip ?_
    | with_reducible refine vc_ret ?_
    | with_reducible refine vc_exit ?_
    | ((with_reducible refine vc_seqN [6] ?hx ?_); (case hx => exact rfl))
    | (with_reducible refine vc_region (fun R hR => ?_))
    | ((with_reducible refine vc_draw ?hx (fun R hR => ?_)); (case hx => exact rfl))
    | fail
    | (revert hF; (refine Cf14_c6 rfl rfl ?_ ?_); (intro hF); rotate_left; (intro b105_2 hF; unfold f14_c6 at hF); rotate_right)
    | exact Zf14_c6 hF ⟨_, rfl, rfl, rfl, rfl⟩ (by first | exact rfl | assumption | omega)
    | (revert hF; (refine Lf14_3 rfl ⟨_, rfl, rfl, rfl, rfl⟩ (by first | exact rfl | assumption | omega) ?_); intro n i4 b105_2 hF; unfold f14_3b at hF)
    | exact Mf14_3 hF ⟨_, rfl, rfl, rfl, rfl⟩ (by first | exact rfl | assumption | omega)
    | with_reducible refine k_seq_ret ?_
    | with_reducible refine k_seq_exit ?_
    | with_reducible refine k_blk ?_
    | with_reducible refine k_blk_ret ?_
    | with_reducible refine k_blk_here ?_
    | ((with_reducible refine k_blk_out ?hx ?_); (case hx => exact rfl))
    | with_reducible refine k_loop_ret ?_
    | with_reducible refine k_loop_exit ?_
    | (revert hF; (with_reducible refine idx1 ?hn ?_); (case hn => first | exact rfl | exact (List.length_map _) | assumption | omega | simp); intro x hx hF; conv => whnf)
    | ((with_reducible have hG := app_fact hF); clear hF; (first | ((refine app_row hG ?hn ?hs (fun q hF => ?_)); (case hn => first | exact rfl | assumption | omega); (case hs => exact rfl)) | ((refine app_nil (d := Label.d) hG ?hs (fun q hF => ?_)); (case hs => exact rfl)) | ((refine app_gen (d := Label.d) hG ?ho ?hn ?hs (fun q hF => ?_)); (case ho => exact rfl); (case hn => exact rfl); (case hs => exact rfl))); clear hG; conv => whnf)
    | ((refine row_all ?hn ?_); (case hn => first | exact rfl | (simp; done) | (simp; omega)); conv => whnf)
    | ((with_reducible refine le_step ?hn ?_); (case hn => first | exact rfl | assumption | omega); conv => whnf)
    | ((refine ⟨?hx, ?_⟩); (case hx => exact ⟨rfl, Nat.le_of_ble_eq_true rfl, rfl⟩); conv => whnf)
    | ((with_reducible refine ex_step ?_); conv => whnf)
    | ((with_reducible refine both_T ?hx ?_); (case hx => first | exact rfl | assumption | exact notT (by assumption)); conv => whnf)
    | ((with_reducible refine both_F ?hx ?_); (case hx => first | exact rfl | assumption | exact notF (by assumption)); conv => whnf)
    | (revert hF; (with_reducible refine ite_step ?_ ?_) <;> (intro hc hF; conv => whnf))
    | ((with_reducible refine vc_condT ?hx ?_); (case hx => exact rfl))
    | ((with_reducible refine vc_condF ?hx ?_); (case hx => exact rfl))
    | (show retD _ _ _ _ _ _; conv => whnf)
    | ((refine ⟨?hx, trivial⟩); (case hx => (cases hF; exact rfl)))
    | ((refine ⟨?hx, ?_⟩); (case hx => decide); conv => whnf)
    | ((with_reducible refine k_seq ?_))
    | (have hF : (none : Option _) = some _ := hF; cases hF))
end
end Go.Vc
namespace Go.Vc
open Go.Proofs
set_option linter.unusedVariables false
set_option linter.unnecessarySimpa false
set_option linter.unusedSimpArgs false
section
variable {c : Ctx} {p nid : Nat} {a b : Code} {st : St} {K : Ex → St → Prop}
/- f72: tusche/tuscheref02.Is -/
def f72 (N : Nat) (a0 : Int) (a1 : Int) (a2 : Int) : Option (Bool) :=
 bif decide (a1 ≤ a0) then (some (decide (a0 ≤ a2)))
 else (some (false))
def G72 (ds : List D) (d : D) : Prop := ∃ (N : Nat) (a0 : Int) (a1 : Int) (a2 : Int) (r : Bool), ds = [iN a0, iN a1, iN a2] ∧ f72 N a0 a1 a2 = some r ∧ d = bN r
theorem G72.step {N : Nat} {a0 : Int} {a1 : Int} {a2 : Int} {ρ : Type} {A : Bool → Option ρ} {q : ρ} {ds : List D} {K : D → Prop} (hd : ds = [iN a0, iN a1, iN a2]) (h : ∀ r, A r = some q → K (bN r)) (hF : (f72 N a0 a1 a2).bind A = some q) : ∃ d, G72 ds d ∧ K d := by
  obtain ⟨r, hr, hA⟩ := bind_some hF
  exact ⟨_, ⟨N, a0, a1, a2, r, hd, hr, rfl⟩, h r hA⟩
set_option maxRecDepth 20000 in
set_option maxHeartbeats 4000000 in
theorem P72 : PureOK Try.prog 72 G72 := by
  refine pure_of_vc (c := mkCtx tyTree []) rfl tyOK (ctx_nil) [[0]] 3 Try.func72 rfl rfl (by decide) (by kernel_rfl) ?_
  rintro ds d ⟨N, a0, a1, a2, r, rfl, hF, rfl⟩ hok
  clear hok
  refine ⟨rfl, ?_⟩
  show vc _ _ _ _ ⟨[(0, .dat (iN a0)), (1, .dat (iN a1)), (2, .dat (iN a2))], []⟩ _
  unfold f72 at hF
  repeat' (first
    | ((with_reducible refine q0 _ _ ?_); clear Q q0 q1 q2)
    | ((with_reducible refine q1 _ _ _ _ ?_); clear Q q0 q1 q2)
    | ((with_reducible refine q2 _ _ _ ?_); clear Q q0 q1 q2)
    | ((with_reducible refine seq_op ?hx (fun Q q0 q1 q2 => ?_)); (case hx => exact rfl); conv => whnf)
    | ((with_reducible refine seq_off ?hx ?_); (case hx => exact rfl))
    | ((with_reducible refine seq_off0 ?hx ?_); (case hx => exact rfl))
    | ((with_reducible refine seq_id ?_); (first | ((refine seq_opK rfl ?hy (fun Q q0 q1 q2 => ?_)); (case hy => first | assumption | exact notT (by assumption) | exact rfl); conv => whnf) | ((refine seq_offK rfl ?hy ?_); (case hy => first | assumption | exact notF (by assumption) | exact rfl)) | ((refine seq_opK0 rfl ?hy (fun Q q0 q1 q2 => ?_)); (case hy => first | assumption | exact notT (by assumption) | exact rfl); conv => whnf) | ((refine seq_offK0 rfl ?hy ?_); (case hy => first | assumption | exact notF (by assumption) | exact rfl)) | (revert hF; (with_reducible refine seq_opF ?hx ?_ ?_); (case hx => exact rfl); (intro hc hF Q q0 q1 q2; conv => whnf); rotate_left; (intro hc hF); rotate_right) | (revert hF; (with_reducible refine seq_opN ?hx ?_ ?_); (case hx => exact rfl); (intro hc hF); rotate_left; (intro hc hF Q q0 q1 q2; conv => whnf); rotate_right) | (revert hF; (with_reducible refine seq_opF0 ?hx ?_ ?_); (case hx => exact rfl); (intro hc hF Q q0 q1 q2; conv => whnf); rotate_left; (intro hc hF); rotate_right) | (revert hF; (with_reducible refine seq_opN0 ?hx ?_ ?_); (case hx => exact rfl); (intro hc hF); rotate_left; (intro hc hF Q q0 q1 q2; conv => whnf); rotate_right)))
    | ((with_reducible refine seq_nil ?_); (first | ((with_reducible refine hR _ ?_); clear R hR) | ((with_reducible refine hL _ ?_); clear L hL)))
    | ((with_reducible refine int_step ?_); conv => whnf)
    | with_reducible refine vc_skip ?_
    | with_reducible refine vc_ret ?_
    | ((with_reducible refine vc_seqN [] ?hx ?_); (case hx => exact rfl))
    | (with_reducible refine vc_region (fun R hR => ?_))
    | fail
    | with_reducible refine k_seq_ret ?_
    | ((refine row_all ?hn ?_); (case hn => first | exact rfl | (simp; done) | (simp; omega)); conv => whnf)
    | ((with_reducible refine le_step ?hn ?_); (case hn => first | exact rfl | assumption | omega); conv => whnf)
    | ((refine ⟨?hx, ?_⟩); (case hx => exact ⟨rfl, Nat.le_of_ble_eq_true rfl, rfl⟩); conv => whnf)
    | ((with_reducible refine ex_step ?_); conv => whnf)
    | ((with_reducible refine both_T ?hx ?_); (case hx => first | exact rfl | assumption | exact notT (by assumption)); conv => whnf)
    | ((with_reducible refine both_F ?hx ?_); (case hx => first | exact rfl | assumption | exact notF (by assumption)); conv => whnf)
    | (revert hF; (with_reducible refine ite_step ?_ ?_) <;> (intro hc hF; conv => whnf))
    | (show retD _ _ _ _ _ _; conv => whnf)
    | ((refine ⟨?hx, trivial⟩); (case hx => (cases hF; exact rfl)))
    | ((refine ⟨?hx, ?_⟩); (case hx => decide); conv => whnf)
    | ((with_reducible refine k_seq ?_))
    | (have hF : (none : Option _) = some _ := hF; cases hF))
end
end Go.Vc
namespace Go.Vc
open Go.Proofs
set_option linter.unusedVariables false
set_option linter.unnecessarySimpa false
set_option linter.unusedSimpArgs false
section
variable {c : Ctx} {p nid : Nat} {a b : Code} {st : St} {K : Ex → St → Prop}
/- f56: tusche/tuscheref06.is -/
def f56 (N : Nat) (a0 : Int) (a1 : Int) (a2 : Int) : Option (Bool) :=
 (f72 N a0 a1 a2).bind fun x1 =>
 some (x1)
def G56 (ds : List D) (d : D) : Prop := ∃ (N : Nat) (a0 : Int) (a1 : Int) (a2 : Int) (r : Bool), ds = [iN a0, iN a1, iN a2] ∧ f56 N a0 a1 a2 = some r ∧ d = bN r
theorem G56.step {N : Nat} {a0 : Int} {a1 : Int} {a2 : Int} {ρ : Type} {A : Bool → Option ρ} {q : ρ} {ds : List D} {K : D → Prop} (hd : ds = [iN a0, iN a1, iN a2]) (h : ∀ r, A r = some q → K (bN r)) (hF : (f56 N a0 a1 a2).bind A = some q) : ∃ d, G56 ds d ∧ K d := by
  obtain ⟨r, hr, hA⟩ := bind_some hF
  exact ⟨_, ⟨N, a0, a1, a2, r, hd, hr, rfl⟩, h r hA⟩
set_option maxRecDepth 20000 in
set_option maxHeartbeats 4000000 in
theorem P56 : PureOK Try.prog 56 G56 := by
  refine pure_of_vc (c := mkCtx tyTree [(72, true, purePg [[0], [0], [0]] G72)]) rfl tyOK (ctx_cons (callable Try.func72 rfl rfl) P72 (ctx_nil)) [[0]] 3 Try.func56 rfl rfl (by decide) (by kernel_rfl) ?_
  rintro ds d ⟨N, a0, a1, a2, r, rfl, hF, rfl⟩ hok
  clear hok
  refine ⟨rfl, ?_⟩
  show vc _ _ _ _ ⟨[(0, .dat (iN a0)), (1, .dat (iN a1)), (2, .dat (iN a2))], []⟩ _
  unfold f56 at hF
  repeat' (first
    | ((with_reducible refine q0 _ _ ?_); clear Q q0 q1 q2)
    | ((with_reducible refine q1 _ _ _ _ ?_); clear Q q0 q1 q2)
    | ((with_reducible refine q2 _ _ _ ?_); clear Q q0 q1 q2)
    | ((with_reducible refine seq_op ?hx (fun Q q0 q1 q2 => ?_)); (case hx => exact rfl); conv => whnf)
    | ((with_reducible refine seq_nil ?_); (first | ((with_reducible refine hR _ ?_); clear R hR) | ((with_reducible refine hL _ ?_); clear L hL)))
    | ((with_reducible refine int_step ?_); conv => whnf)
    | with_reducible refine vc_skip ?_
    | with_reducible refine vc_ret ?_
    | ((with_reducible refine vc_seqN [] ?hx ?_); (case hx => exact rfl))
    | (with_reducible refine vc_region (fun R hR => ?_))
    | fail
    | (revert hF; (with_reducible refine G72.step ?hx ?_); (case hx => exact rfl); intro v hF; conv => whnf)
    | with_reducible refine k_seq_ret ?_
    | ((refine row_all ?hn ?_); (case hn => first | exact rfl | (simp; done) | (simp; omega)); conv => whnf)
    | ((with_reducible refine le_step ?hn ?_); (case hn => first | exact rfl | assumption | omega); conv => whnf)
    | ((refine ⟨?hx, ?_⟩); (case hx => exact ⟨rfl, Nat.le_of_ble_eq_true rfl, rfl⟩); conv => whnf)
    | ((with_reducible refine ex_step ?_); conv => whnf)
    | ((with_reducible refine both_T ?hx ?_); (case hx => first | exact rfl | assumption | exact notT (by assumption)); conv => whnf)
    | ((with_reducible refine both_F ?hx ?_); (case hx => first | exact rfl | assumption | exact notF (by assumption)); conv => whnf)
    | (revert hF; (with_reducible refine ite_step ?_ ?_) <;> (intro hc hF; conv => whnf))
    | (show retD _ _ _ _ _ _; conv => whnf)
    | ((refine ⟨?hx, trivial⟩); (case hx => (cases hF; exact rfl)))
    | ((refine ⟨?hx, ?_⟩); (case hx => decide); conv => whnf)
    | ((with_reducible refine k_seq ?_))
    | (have hF : (none : Option _) = some _ := hF; cases hF))
end
end Go.Vc
namespace Go.Vc
open Go.Proofs
set_option linter.unusedVariables false
set_option linter.unnecessarySimpa false
set_option linter.unusedSimpArgs false
section
variable {c : Ctx} {p nid : Nat} {a b : Code} {st : St} {K : Ex → St → Prop}
/- f57: tusche/tuscheref06.meet -/
def f57 (N : Nat) (a0 : Label) (a1 : Label) : Option (Bool) :=
 bif decide (a0.X < (W (a1.X + a1.W))) then (bif decide (a1.X < (W (a0.X + a0.W))) then (bif decide (a0.Y < (W (a1.Y + a1.H))) then (some (decide (a1.Y < (W (a0.Y + a0.H)))))
 else (some (false)))
 else (some (false)))
 else (some (false))
def G57 (ds : List D) (d : D) : Prop := ∃ (N : Nat) (a0 : Label) (a1 : Label) (r : Bool), ds = [Label.d a0, Label.d a1] ∧ f57 N a0 a1 = some r ∧ d = bN r
theorem G57.step {N : Nat} {a0 : Label} {a1 : Label} {ρ : Type} {A : Bool → Option ρ} {q : ρ} {ds : List D} {K : D → Prop} (hd : ds = [Label.d a0, Label.d a1]) (h : ∀ r, A r = some q → K (bN r)) (hF : (f57 N a0 a1).bind A = some q) : ∃ d, G57 ds d ∧ K d := by
  obtain ⟨r, hr, hA⟩ := bind_some hF
  exact ⟨_, ⟨N, a0, a1, r, hd, hr, rfl⟩, h r hA⟩
set_option maxRecDepth 20000 in
set_option maxHeartbeats 4000000 in
theorem P57 : PureOK Try.prog 57 G57 := by
  refine pure_of_vc (c := mkCtx tyTree []) rfl tyOK (ctx_nil) [[0]] 2 Try.func57 rfl rfl (by decide) (by kernel_rfl) ?_
  rintro ds d ⟨N, a0, a1, r, rfl, hF, rfl⟩ hok
  clear hok
  refine ⟨rfl, ?_⟩
  show vc _ _ _ _ ⟨[(0, .dat (Label.d a0)), (1, .dat (Label.d a1))], []⟩ _
  unfold f57 at hF
  repeat' (first
    | ((with_reducible refine q0 _ _ ?_); clear Q q0 q1 q2)
    | ((with_reducible refine q1 _ _ _ _ ?_); clear Q q0 q1 q2)
    | ((with_reducible refine q2 _ _ _ ?_); clear Q q0 q1 q2)
    | ((with_reducible refine seq_op ?hx (fun Q q0 q1 q2 => ?_)); (case hx => exact rfl); conv => whnf)
    | ((with_reducible refine seq_off ?hx ?_); (case hx => exact rfl))
    | ((with_reducible refine seq_off0 ?hx ?_); (case hx => exact rfl))
    | ((with_reducible refine seq_id ?_); (first | ((refine seq_opK rfl ?hy (fun Q q0 q1 q2 => ?_)); (case hy => first | assumption | exact notT (by assumption) | exact rfl); conv => whnf) | ((refine seq_offK rfl ?hy ?_); (case hy => first | assumption | exact notF (by assumption) | exact rfl)) | ((refine seq_opK0 rfl ?hy (fun Q q0 q1 q2 => ?_)); (case hy => first | assumption | exact notT (by assumption) | exact rfl); conv => whnf) | ((refine seq_offK0 rfl ?hy ?_); (case hy => first | assumption | exact notF (by assumption) | exact rfl)) | (revert hF; (with_reducible refine seq_opF ?hx ?_ ?_); (case hx => exact rfl); (intro hc hF Q q0 q1 q2; conv => whnf); rotate_left; (intro hc hF); rotate_right) | (revert hF; (with_reducible refine seq_opN ?hx ?_ ?_); (case hx => exact rfl); (intro hc hF); rotate_left; (intro hc hF Q q0 q1 q2; conv => whnf); rotate_right) | (revert hF; (with_reducible refine seq_opF0 ?hx ?_ ?_); (case hx => exact rfl); (intro hc hF Q q0 q1 q2; conv => whnf); rotate_left; (intro hc hF); rotate_right) | (revert hF; (with_reducible refine seq_opN0 ?hx ?_ ?_); (case hx => exact rfl); (intro hc hF); rotate_left; (intro hc hF Q q0 q1 q2; conv => whnf); rotate_right)))
    | ((with_reducible refine seq_nil ?_); (first | ((with_reducible refine hR _ ?_); clear R hR) | ((with_reducible refine hL _ ?_); clear L hL)))
    | ((with_reducible refine int_step ?_); conv => whnf)
    | with_reducible refine vc_skip ?_
    | with_reducible refine vc_ret ?_
    | ((with_reducible refine vc_seqN [] ?hx ?_); (case hx => exact rfl))
    | (with_reducible refine vc_region (fun R hR => ?_))
    | fail
    | with_reducible refine k_seq_ret ?_
    | ((refine row_all ?hn ?_); (case hn => first | exact rfl | (simp; done) | (simp; omega)); conv => whnf)
    | ((with_reducible refine le_step ?hn ?_); (case hn => first | exact rfl | assumption | omega); conv => whnf)
    | ((refine ⟨?hx, ?_⟩); (case hx => exact ⟨rfl, Nat.le_of_ble_eq_true rfl, rfl⟩); conv => whnf)
    | ((with_reducible refine ex_step ?_); conv => whnf)
    | ((with_reducible refine both_T ?hx ?_); (case hx => first | exact rfl | assumption | exact notT (by assumption)); conv => whnf)
    | ((with_reducible refine both_F ?hx ?_); (case hx => first | exact rfl | assumption | exact notF (by assumption)); conv => whnf)
    | (revert hF; (with_reducible refine ite_step ?_ ?_) <;> (intro hc hF; conv => whnf))
    | (show retD _ _ _ _ _ _; conv => whnf)
    | ((refine ⟨?hx, trivial⟩); (case hx => (cases hF; exact rfl)))
    | ((refine ⟨?hx, ?_⟩); (case hx => decide); conv => whnf)
    | ((with_reducible refine k_seq ?_))
    | (have hF : (none : Option _) = some _ := hF; cases hF))
end
end Go.Vc
namespace Go.Vc
open Go.Proofs
set_option linter.unusedVariables false
set_option linter.unnecessarySimpa false
set_option linter.unusedSimpArgs false
section
variable {c : Ctx} {p nid : Nat} {a b : Code} {st : St} {K : Ex → St → Prop}
/- f21: tusche/tuscheref06.Check -/
def f21_c21 : Option (Int) :=
 some ((0 : Int))
def Sf21_c21 : Ann := ⟨[], [], [], []⟩
def Vf21_c21 : List SV := []
def Bf21_c21 : List Blk := []
def Yf21_c21 (y : Unit) : List SV := Vf21_c21
def Xf21_c21 (y : Unit) : List Blk := Bf21_c21
def Jf21_c21 (r : Int) (y : Unit) : Prop := f21_c21 = some r
theorem Cf21_c21 {r : Int} {g : _ → Option (Int)} (hn : Nat.beq (nid * 1000 + firstRegion b) 21 = true) (hz : Sf21_c21.ok p = true) (h : g f21_c21 = some r → vc c p nid a st (KHead Sf21_c21 Yf21_c21 Xf21_c21 (Jf21_c21 r) K)) (h2 : ∀ (_ : Unit), f21_c21 = some r → vc c p nid b (St.mk' Sf21_c21 Vf21_c21 Bf21_c21) K) (hF : joinK f21_c21 g = some r) : vc c p nid (.seq a b) st K :=
  vc_cut Sf21_c21 Yf21_c21 Xf21_c21 (Jf21_c21 r) hz (h hF) fun y hy => h2 () hy
theorem Zf21_c21 {r : Int} (hF : f21_c21 = some r) (h0 : AtH Sf21_c21 st Vf21_c21 Bf21_c21) : KHead Sf21_c21 Yf21_c21 Xf21_c21 (Jf21_c21 r) K .normal st := by
  exact khead (I := (Jf21_c21 r)) (x := ()) hF h0
def f21_c15 (a0 : Layout) (v5 : Int) (r14 : Int → Option (Int)) : Option (Int) :=
 r14 (W (v5 + (1 : Int)))
def Sf21_c15 : Ann := ⟨[1, 5], [0], [], []⟩
def Vf21_c15 (a0 : Layout) (v5 : Int) : List SV := [.ptr 0 0, .dat (iN v5)]
def Bf21_c15 (a0 : Layout) (v5 : Int) : List Blk := [.box [.dat (iN a0.W), .dat (iN a0.H), .dat (sl_Label a0.Labels)]]
def Yf21_c15 (a0 : Layout) (v5 : Int) (y : Unit) : List SV := Vf21_c15 a0 v5
def Xf21_c15 (a0 : Layout) (v5 : Int) (y : Unit) : List Blk := Bf21_c15 a0 v5
def Jf21_c15 (a0 : Layout) (v5 : Int) (r14 : Int → Option (Int)) (r : Int) (y : Unit) : Prop := f21_c15 a0 v5 r14 = some r
theorem Cf21_c15 {r : Int} {a0 : Layout} {v5 : Int} {r14 : Int → Option (Int)} {g : _ → Option (Int)} (hn : Nat.beq (nid * 1000 + firstRegion b) 15 = true) (hz : Sf21_c15.ok p = true) (h : g (f21_c15 a0 v5 r14) = some r → vc c p nid a st (KHead Sf21_c15 (Yf21_c15 a0 v5) (Xf21_c15 a0 v5) (Jf21_c15 a0 v5 r14 r) K)) (h2 : ∀ (_ : Unit), f21_c15 a0 v5 r14 = some r → vc c p nid b (St.mk' Sf21_c15 (Vf21_c15 a0 v5) (Bf21_c15 a0 v5)) K) (hF : joinK (f21_c15 a0 v5 r14) g = some r) : vc c p nid (.seq a b) st K :=
  vc_cut Sf21_c15 (Yf21_c15 a0 v5) (Xf21_c15 a0 v5) (Jf21_c15 a0 v5 r14 r) hz (h hF) fun y hy => h2 () hy
theorem Zf21_c15 {r : Int} {a0 : Layout} {v5 : Int} {r14 : Int → Option (Int)} (hF : f21_c15 a0 v5 r14 = some r) (h0 : AtH Sf21_c15 st (Vf21_c15 a0 v5) (Bf21_c15 a0 v5)) : KHead Sf21_c15 (Yf21_c15 a0 v5) (Xf21_c15 a0 v5) (Jf21_c15 a0 v5 r14 r) K .normal st := by
  exact khead (I := (Jf21_c15 a0 v5 r14 r)) (x := ()) hF h0
def f21_17b (r17 : Int → Option (Int)) (a0 : Layout) (N : Nat) (v5 : Int) (k1 : Option (Int)) (v6 : Int) : Option (Int) :=
 bif decide (v6 < v5) then ((ix a0.Labels v5).bind fun x3 =>
 (ix a0.Labels v6).bind fun x4 =>
 (f57 N x3 x4).bind fun x5 =>
 bif x5 then (some ((12 : Int)))
 else (r17 (W (v6 + (1 : Int)))))
 else k1
def f21_17 (a0 : Layout) (N : Nat) (v5 : Int) (k1 : Option (Int)) : Nat → Int → Option (Int)
  | 0, _ => none
  | n + 1, v6 => f21_17b (f21_17 a0 N v5 k1 n) a0 N v5 k1 v6
def Sf21_17 : Ann := ⟨[1, 5, 6], [0], [], []⟩
def Vf21_17 (a0 : Layout) (v5 : Int) (v6 : Int) : List SV := [.ptr 0 0, .dat (iN v5), .dat (iN v6)]
def Bf21_17 (a0 : Layout) (v5 : Int) (v6 : Int) : List Blk := [.box [.dat (iN a0.W), .dat (iN a0.H), .dat (sl_Label a0.Labels)]]
def Yf21_17 (a0 : Layout) (v5 : Int) (y : Nat × Int) : List SV := Vf21_17 a0 v5 y.2
def Xf21_17 (a0 : Layout) (v5 : Int) (y : Nat × Int) : List Blk := Bf21_17 a0 v5 y.2
def Jf21_17 (a0 : Layout) (N : Nat) (v5 : Int) (k1 : Option (Int)) (r : Int) (y : Nat × Int) : Prop := f21_17 a0 N v5 k1 y.1 y.2 = some r
theorem Lf21_17 {r : Int} {a0 : Layout} {N : Nat} {v5 : Int} {k1 : Option (Int)} {fu : Nat} {v6 : Int} (hz : Sf21_17.ok p = true) (h0 : AtH Sf21_17 st (Vf21_17 a0 v5 v6) (Bf21_17 a0 v5 v6)) (h : ∀ (n : Nat) (v6 : Int), f21_17b (f21_17 a0 N v5 k1 n) a0 N v5 k1 v6 = some r → vc c p nid a (St.mk' Sf21_17 (Vf21_17 a0 v5 v6) (Bf21_17 a0 v5 v6)) (Kloop Sf21_17 (Yf21_17 a0 v5) (Xf21_17 a0 v5) (Jf21_17 a0 N v5 k1 r) Prod.fst (n + 1, v6) K)) (hF : f21_17 a0 N v5 k1 fu v6 = some r) : vc c p nid (.loop a) st K := by
  refine vc_loop Sf21_17 (Yf21_17 a0 v5) (Xf21_17 a0 v5) (Jf21_17 a0 N v5 k1 r) Prod.fst hz (kheadL (x := (fu, v6)) hF h0) ?_
  rintro ⟨_ | n, v6⟩ hI
  · cases hI
  · exact h n v6 hI
theorem Mf21_17 {r : Int} {a0 : Layout} {N : Nat} {v5 : Int} {k1 : Option (Int)} {n : Nat} {v6 : Int} {v6_ : Int} (hF : f21_17 a0 N v5 k1 n v6 = some r) (h0 : AtH Sf21_17 st (Vf21_17 a0 v5 v6) (Bf21_17 a0 v5 v6)) : Kloop Sf21_17 (Yf21_17 a0 v5) (Xf21_17 a0 v5) (Jf21_17 a0 N v5 k1 r) Prod.fst (n + 1, v6_) K .normal st := by
  exact kback (y := (n, v6)) hF (Nat.lt_succ_self n) h0
def f21_14b (r14 : Int → Option (Int)) (a0 : Layout) (N : Nat) (k0 : Option (Int)) (v5 : Int) : Option (Int) :=
 bif decide (v5 < (List.length a0.Labels : Int)) then (joinK (f21_c15 a0 v5 r14) fun k1 =>
 f21_17 a0 N v5 k1 N (0 : Int))
 else k0
def f21_14 (a0 : Layout) (N : Nat) (k0 : Option (Int)) : Nat → Int → Option (Int)
  | 0, _ => none
  | n + 1, v5 => f21_14b (f21_14 a0 N k0 n) a0 N k0 v5
def Sf21_14 : Ann := ⟨[1, 5], [0], [], []⟩
def Vf21_14 (a0 : Layout) (v5 : Int) : List SV := [.ptr 0 0, .dat (iN v5)]
def Bf21_14 (a0 : Layout) (v5 : Int) : List Blk := [.box [.dat (iN a0.W), .dat (iN a0.H), .dat (sl_Label a0.Labels)]]
def Yf21_14 (a0 : Layout) (y : Nat × Int) : List SV := Vf21_14 a0 y.2
def Xf21_14 (a0 : Layout) (y : Nat × Int) : List Blk := Bf21_14 a0 y.2
def Jf21_14 (a0 : Layout) (N : Nat) (k0 : Option (Int)) (r : Int) (y : Nat × Int) : Prop := f21_14 a0 N k0 y.1 y.2 = some r
theorem Lf21_14 {r : Int} {a0 : Layout} {N : Nat} {k0 : Option (Int)} {fu : Nat} {v5 : Int} (hz : Sf21_14.ok p = true) (h0 : AtH Sf21_14 st (Vf21_14 a0 v5) (Bf21_14 a0 v5)) (h : ∀ (n : Nat) (v5 : Int), f21_14b (f21_14 a0 N k0 n) a0 N k0 v5 = some r → vc c p nid a (St.mk' Sf21_14 (Vf21_14 a0 v5) (Bf21_14 a0 v5)) (Kloop Sf21_14 (Yf21_14 a0) (Xf21_14 a0) (Jf21_14 a0 N k0 r) Prod.fst (n + 1, v5) K)) (hF : f21_14 a0 N k0 fu v5 = some r) : vc c p nid (.loop a) st K := by
  refine vc_loop Sf21_14 (Yf21_14 a0) (Xf21_14 a0) (Jf21_14 a0 N k0 r) Prod.fst hz (kheadL (x := (fu, v5)) hF h0) ?_
  rintro ⟨_ | n, v5⟩ hI
  · cases hI
  · exact h n v5 hI
theorem Mf21_14 {r : Int} {a0 : Layout} {N : Nat} {k0 : Option (Int)} {n : Nat} {v5 : Int} {v5_ : Int} (hF : f21_14 a0 N k0 n v5 = some r) (h0 : AtH Sf21_14 st (Vf21_14 a0 v5) (Bf21_14 a0 v5)) : Kloop Sf21_14 (Yf21_14 a0) (Xf21_14 a0) (Jf21_14 a0 N k0 r) Prod.fst (n + 1, v5_) K .normal st := by
  exact kback (y := (n, v5)) hF (Nat.lt_succ_self n) h0
def f21_c13 (a0 : Layout) (N : Nat) : Option (Int) :=
 joinK f21_c21 fun k0 =>
 f21_14 a0 N k0 N (0 : Int)
def Sf21_c13 : Ann := ⟨[1], [0], [], []⟩
def Vf21_c13 (a0 : Layout) : List SV := [.ptr 0 0]
def Bf21_c13 (a0 : Layout) : List Blk := [.box [.dat (iN a0.W), .dat (iN a0.H), .dat (sl_Label a0.Labels)]]
def Yf21_c13 (a0 : Layout) (y : Unit) : List SV := Vf21_c13 a0
def Xf21_c13 (a0 : Layout) (y : Unit) : List Blk := Bf21_c13 a0
def Jf21_c13 (a0 : Layout) (N : Nat) (r : Int) (y : Unit) : Prop := f21_c13 a0 N = some r
theorem Cf21_c13 {r : Int} {a0 : Layout} {N : Nat} {g : _ → Option (Int)} (hn : Nat.beq (nid * 1000 + firstRegion b) 13 = true) (hz : Sf21_c13.ok p = true) (h : g (f21_c13 a0 N) = some r → vc c p nid a st (KHead Sf21_c13 (Yf21_c13 a0) (Xf21_c13 a0) (Jf21_c13 a0 N r) K)) (h2 : ∀ (_ : Unit), f21_c13 a0 N = some r → vc c p nid b (St.mk' Sf21_c13 (Vf21_c13 a0) (Bf21_c13 a0)) K) (hF : joinK (f21_c13 a0 N) g = some r) : vc c p nid (.seq a b) st K :=
  vc_cut Sf21_c13 (Yf21_c13 a0) (Xf21_c13 a0) (Jf21_c13 a0 N r) hz (h hF) fun y hy => h2 () hy
theorem Zf21_c13 {r : Int} {a0 : Layout} {N : Nat} (hF : f21_c13 a0 N = some r) (h0 : AtH Sf21_c13 st (Vf21_c13 a0) (Bf21_c13 a0)) : KHead Sf21_c13 (Yf21_c13 a0) (Xf21_c13 a0) (Jf21_c13 a0 N r) K .normal st := by
  exact khead (I := (Jf21_c13 a0 N r)) (x := ()) hF h0
def f21_6b (r6 : Int → Option (Int)) (a0 : Layout) (N : Nat) (k2 : Option (Int)) (v3 : Int) : Option (Int) :=
 bif decide (v3 < (List.length a0.Labels : Int)) then ((ix a0.Labels v3).bind fun x6 =>
 bif decide (x6.W < (1 : Int)) then (some ((3 : Int)))
 else (bif decide (x6.H < (1 : Int)) then (some ((3 : Int)))
 else ((f56 N x6.X (0 : Int) a0.W).bind fun x7 =>
 bif !x7 then (some ((16 : Int)))
 else ((f56 N x6.Y (0 : Int) a0.H).bind fun x8 =>
 bif !x8 then (some ((16 : Int)))
 else (bif decide ((W (a0.W - x6.X)) < x6.W) then (some ((16 : Int)))
 else (bif decide ((W (a0.H - x6.Y)) < x6.H) then (some ((16 : Int)))
 else (r6 (W (v3 + (1 : Int))))))))))
 else k2
def f21_6 (a0 : Layout) (N : Nat) (k2 : Option (Int)) : Nat → Int → Option (Int)
  | 0, _ => none
  | n + 1, v3 => f21_6b (f21_6 a0 N k2 n) a0 N k2 v3
def Sf21_6 : Ann := ⟨[1, 3], [0], [], []⟩
def Vf21_6 (a0 : Layout) (v3 : Int) : List SV := [.ptr 0 0, .dat (iN v3)]
def Bf21_6 (a0 : Layout) (v3 : Int) : List Blk := [.box [.dat (iN a0.W), .dat (iN a0.H), .dat (sl_Label a0.Labels)]]
def Yf21_6 (a0 : Layout) (y : Nat × Int) : List SV := Vf21_6 a0 y.2
def Xf21_6 (a0 : Layout) (y : Nat × Int) : List Blk := Bf21_6 a0 y.2
def Jf21_6 (a0 : Layout) (N : Nat) (k2 : Option (Int)) (r : Int) (y : Nat × Int) : Prop := f21_6 a0 N k2 y.1 y.2 = some r
theorem Lf21_6 {r : Int} {a0 : Layout} {N : Nat} {k2 : Option (Int)} {fu : Nat} {v3 : Int} (hz : Sf21_6.ok p = true) (h0 : AtH Sf21_6 st (Vf21_6 a0 v3) (Bf21_6 a0 v3)) (h : ∀ (n : Nat) (v3 : Int), f21_6b (f21_6 a0 N k2 n) a0 N k2 v3 = some r → vc c p nid a (St.mk' Sf21_6 (Vf21_6 a0 v3) (Bf21_6 a0 v3)) (Kloop Sf21_6 (Yf21_6 a0) (Xf21_6 a0) (Jf21_6 a0 N k2 r) Prod.fst (n + 1, v3) K)) (hF : f21_6 a0 N k2 fu v3 = some r) : vc c p nid (.loop a) st K := by
  refine vc_loop Sf21_6 (Yf21_6 a0) (Xf21_6 a0) (Jf21_6 a0 N k2 r) Prod.fst hz (kheadL (x := (fu, v3)) hF h0) ?_
  rintro ⟨_ | n, v3⟩ hI
  · cases hI
  · exact h n v3 hI
theorem Mf21_6 {r : Int} {a0 : Layout} {N : Nat} {k2 : Option (Int)} {n : Nat} {v3 : Int} {v3_ : Int} (hF : f21_6 a0 N k2 n v3 = some r) (h0 : AtH Sf21_6 st (Vf21_6 a0 v3) (Bf21_6 a0 v3)) : Kloop Sf21_6 (Yf21_6 a0) (Xf21_6 a0) (Jf21_6 a0 N k2 r) Prod.fst (n + 1, v3_) K .normal st := by
  exact kback (y := (n, v3)) hF (Nat.lt_succ_self n) h0
def f21 (N : Nat) (a0 : Layout) : Option (Int) :=
 (f56 N a0.W (1 : Int) (12 : Int)).bind fun x1 =>
 bif !x1 then (some ((3 : Int)))
 else ((f56 N a0.H (1 : Int) (12 : Int)).bind fun x2 =>
 bif !x2 then (some ((3 : Int)))
 else (bif decide ((10 : Int) < (List.length a0.Labels : Int)) then (some ((2 : Int)))
 else (joinK (f21_c13 a0 N) fun k2 =>
 f21_6 a0 N k2 N (0 : Int))))
def G21 (ds : List D) (d : D) : Prop := ∃ (N : Nat) (a0 : Layout) (r : Int), ds = [Layout.d a0] ∧ f21 N a0 = some r ∧ d = iN r
theorem G21.step {N : Nat} {a0 : Layout} {ρ : Type} {A : Int → Option ρ} {q : ρ} {ds : List D} {K : D → Prop} (hd : ds = [Layout.d a0]) (h : ∀ r, A r = some q → K (iN r)) (hF : (f21 N a0).bind A = some q) : ∃ d, G21 ds d ∧ K d := by
  obtain ⟨r, hr, hA⟩ := bind_some hF
  exact ⟨_, ⟨N, a0, r, hd, hr, rfl⟩, h r hA⟩
set_option maxRecDepth 20000 in
set_option maxHeartbeats 4000000 in
theorem P21 : PureOK Try.prog 21 G21 := by
  refine pure_of_vc (c := mkCtx tyTree [(57, true, purePg [[0, 0, 0, 0], [0, 0, 0, 0]] G57), (56, true, purePg [[0], [0], [0]] G56)]) rfl tyOK (ctx_cons (callable Try.func57 rfl rfl) P57 (ctx_cons (callable Try.func56 rfl rfl) P56 (ctx_nil))) [[0]] 1 Try.func21 rfl rfl (by decide) (by kernel_rfl) ?_
  rintro ds d ⟨N, a0, r, rfl, hF, rfl⟩ hok
  clear hok
  refine ⟨rfl, ?_⟩
  show vc _ _ _ _ ⟨[(0, .dat (Layout.d a0))], []⟩ _
  unfold f21 at hF
  repeat' (first
    | ((with_reducible refine q0 _ _ ?_); clear Q q0 q1 q2)
    | ((with_reducible refine q1 _ _ _ _ ?_); clear Q q0 q1 q2)
    | ((with_reducible refine q2 _ _ _ ?_); clear Q q0 q1 q2)
    | ((with_reducible refine seq_op ?hx (fun Q q0 q1 q2 => ?_)); (case hx => exact rfl); conv => whnf)
    | ((with_reducible refine draw_op ?hx (fun Q q0 q1 q2 => ?_)); (case hx => exact rfl); conv => whnf)
    | ((with_reducible refine seq_op0 ?hx (fun Q q0 q1 q2 => ?_)); (case hx => exact rfl); conv => whnf)
    | ((with_reducible refine draw_op0 ?hx (fun Q q0 q1 q2 => ?_)); (case hx => exact rfl); conv => whnf)
    | ((with_reducible refine seq_off ?hx ?_); (case hx => exact rfl))
    | ((with_reducible refine seq_off0 ?hx ?_); (case hx => exact rfl))
    | ((with_reducible refine draw_off ?hx ?_); (case hx => exact rfl))
    | ((with_reducible refine draw_off0 ?hx ?_); (case hx => exact rfl))
    | ((with_reducible refine seq_id ?_); (first | ((refine seq_opK rfl ?hy (fun Q q0 q1 q2 => ?_)); (case hy => first | assumption | exact notT (by assumption) | exact rfl); conv => whnf) | ((refine seq_offK rfl ?hy ?_); (case hy => first | assumption | exact notF (by assumption) | exact rfl)) | ((refine seq_opK0 rfl ?hy (fun Q q0 q1 q2 => ?_)); (case hy => first | assumption | exact notT (by assumption) | exact rfl); conv => whnf) | ((refine seq_offK0 rfl ?hy ?_); (case hy => first | assumption | exact notF (by assumption) | exact rfl)) | (revert hF; (with_reducible refine seq_opF ?hx ?_ ?_); (case hx => exact rfl); (intro hc hF Q q0 q1 q2; conv => whnf); rotate_left; (intro hc hF); rotate_right) | (revert hF; (with_reducible refine seq_opN ?hx ?_ ?_); (case hx => exact rfl); (intro hc hF); rotate_left; (intro hc hF Q q0 q1 q2; conv => whnf); rotate_right) | (revert hF; (with_reducible refine seq_opF0 ?hx ?_ ?_); (case hx => exact rfl); (intro hc hF Q q0 q1 q2; conv => whnf); rotate_left; (intro hc hF); rotate_right) | (revert hF; (with_reducible refine seq_opN0 ?hx ?_ ?_); (case hx => exact rfl); (intro hc hF); rotate_left; (intro hc hF Q q0 q1 q2; conv => whnf); rotate_right)))
    | ((with_reducible refine cond_id ?_); (first | ((refine condKT rfl ?hy ?_); (case hy => first | assumption | exact notT (by assumption) | exact rfl)) | ((refine condKF rfl ?hy ?_); (case hy => first | assumption | exact notF (by assumption) | exact rfl)) | (revert hF; (with_reducible refine condF ?hx ?_ ?_); (case hx => exact rfl); all_goals (intro hc hF))))
    | ((with_reducible refine seq_nil ?_); (first | ((with_reducible refine hR _ ?_); clear R hR) | ((with_reducible refine hL _ ?_); clear L hL)))
    | ((with_reducible refine draw_nil ?_); (with_reducible refine hR _ _ ?hx ?_); (case hx => kernel_rfl); (first | clear R hR | clear hR))
    | ((with_reducible refine int_step ?_); conv => whnf)
    | ((with_reducible refine len_step ?_); conv => whnf)
    | ((with_reducible refine idx2 (by assumption) ?_); conv => whnf)
    | ((with_reducible refine idx3 (by assumption) ?_); conv => whnf)
    | with_reducible refine vc_block ?_
    | with_reducible refine vc_skip ?_
    | with_reducible refine vc_ret ?_
    | with_reducible refine vc_exit ?_
    | ((with_reducible refine vc_seqN [21, 15, 13] ?hx ?_); (case hx => exact rfl))
    | (with_reducible refine vc_region (fun R hR => ?_))
    | ((with_reducible refine vc_draw ?hx (fun R hR => ?_)); (case hx => exact rfl))
    | ((with_reducible refine vc_tail (n := 10) ?hx ?hn rfl rfl (fun R L hL hR => ?_)); (case hx => kernel_rfl); (case hn => exact rfl); simp only [List.take_succ_cons, List.take_zero, List.drop_succ_cons, List.drop_zero] at hR ⊢)
    | (revert hF; (refine Cf21_c21 rfl rfl ?_ ?_); (intro hF); rotate_left; (intro _ hF; unfold f21_c21 at hF); rotate_right)
    | exact Zf21_c21 hF ⟨_, rfl, rfl, rfl, rfl⟩
    | (revert hF; (refine Cf21_c15 rfl rfl ?_ ?_); (intro hF); rotate_left; (intro _ hF; unfold f21_c15 at hF); rotate_right)
    | exact Zf21_c15 hF ⟨_, rfl, rfl, rfl, rfl⟩
    | (revert hF; (refine Lf21_17 rfl ⟨_, rfl, rfl, rfl, rfl⟩ ?_); intro n v6 hF; unfold f21_17b at hF)
    | exact Mf21_17 hF ⟨_, rfl, rfl, rfl, rfl⟩
    | (revert hF; (refine Lf21_14 rfl ⟨_, rfl, rfl, rfl, rfl⟩ ?_); intro n v5 hF; unfold f21_14b at hF)
    | exact Mf21_14 hF ⟨_, rfl, rfl, rfl, rfl⟩
    | (revert hF; (refine Cf21_c13 rfl rfl ?_ ?_); (intro hF); rotate_left; (intro _ hF; unfold f21_c13 at hF); rotate_right)
    | exact Zf21_c13 hF ⟨_, rfl, rfl, rfl, rfl⟩
    | (revert hF; (refine Lf21_6 rfl ⟨_, rfl, rfl, rfl, rfl⟩ ?_); intro n v3 hF; unfold f21_6b at hF)
    | exact Mf21_6 hF ⟨_, rfl, rfl, rfl, rfl⟩
    | (revert hF; (with_reducible refine G56.step ?hx ?_); (case hx => exact rfl); intro v hF; conv => whnf)
    | (revert hF; (with_reducible refine G57.step ?hx ?_); (case hx => exact rfl); intro v hF; conv => whnf)
    | with_reducible refine k_seq_ret ?_
    | with_reducible refine k_seq_exit ?_
    | with_reducible refine k_blk ?_
    | with_reducible refine k_blk_ret ?_
    | with_reducible refine k_blk_here ?_
    | ((with_reducible refine k_blk_out ?hx ?_); (case hx => exact rfl))
    | with_reducible refine k_loop_ret ?_
    | with_reducible refine k_loop_exit ?_
    | (revert hF; (with_reducible refine idx1 ?hn ?_); (case hn => first | exact rfl | exact (List.length_map _) | assumption | omega | simp); intro x hx hF; conv => whnf)
    | ((refine row_all ?hn ?_); (case hn => first | exact rfl | (simp; done) | (simp; omega)); conv => whnf)
    | ((with_reducible refine le_step ?hn ?_); (case hn => first | exact rfl | assumption | omega); conv => whnf)
    | ((refine ⟨?hx, ?_⟩); (case hx => exact ⟨rfl, Nat.le_of_ble_eq_true rfl, rfl⟩); conv => whnf)
    | ((with_reducible refine ex_step ?_); conv => whnf)
    | ((with_reducible refine both_T ?hx ?_); (case hx => first | exact rfl | assumption | exact notT (by assumption)); conv => whnf)
    | ((with_reducible refine both_F ?hx ?_); (case hx => first | exact rfl | assumption | exact notF (by assumption)); conv => whnf)
    | (revert hF; (with_reducible refine ite_step ?_ ?_) <;> (intro hc hF; conv => whnf))
    | ((with_reducible refine vc_condT ?hx ?_); (case hx => exact rfl))
    | ((with_reducible refine vc_condF ?hx ?_); (case hx => exact rfl))
    | (show retD _ _ _ _ _ _; conv => whnf)
    | ((refine ⟨?hx, trivial⟩); (case hx => (cases hF; exact rfl)))
    | ((refine ⟨?hx, ?_⟩); (case hx => decide); conv => whnf)
    | ((with_reducible refine k_seq ?_))
    | (have hF : (none : Option _) = some _ := hF; cases hF))
end
end Go.Vc
namespace Go.Vc
open Go.Proofs
set_option linter.unusedVariables false
set_option linter.unnecessarySimpa false
set_option linter.unusedSimpArgs false
section
variable {c : Ctx} {p nid : Nat} {a b : Code} {st : St} {K : Ex → St → Prop}
/- f50: tusche/tuscheref06.kinded -/
def f50_c11 : Option (Int) :=
 some ((0 : Int))
def Sf50_c11 : Ann := ⟨[], [], [], []⟩
def Vf50_c11 : List SV := []
def Bf50_c11 : List Blk := []
def Yf50_c11 (y : Unit) : List SV := Vf50_c11
def Xf50_c11 (y : Unit) : List Blk := Bf50_c11
def Jf50_c11 (r : Int) (y : Unit) : Prop := f50_c11 = some r
theorem Cf50_c11 {r : Int} {g : _ → Option (Int)} (hn : Nat.beq (nid * 1000 + firstRegion b) 11 = true) (hz : Sf50_c11.ok p = true) (h : g f50_c11 = some r → vc c p nid a st (KHead Sf50_c11 Yf50_c11 Xf50_c11 (Jf50_c11 r) K)) (h2 : ∀ (_ : Unit), f50_c11 = some r → vc c p nid b (St.mk' Sf50_c11 Vf50_c11 Bf50_c11) K) (hF : joinK f50_c11 g = some r) : vc c p nid (.seq a b) st K :=
  vc_cut Sf50_c11 Yf50_c11 Xf50_c11 (Jf50_c11 r) hz (h hF) fun y hy => h2 () hy
theorem Zf50_c11 {r : Int} (hF : f50_c11 = some r) (h0 : AtH Sf50_c11 st Vf50_c11 Bf50_c11) : KHead Sf50_c11 Yf50_c11 Xf50_c11 (Jf50_c11 r) K .normal st := by
  exact khead (I := (Jf50_c11 r)) (x := ()) hF h0
def f50_6b (r6 : Int → Option (Int)) (a0 : List Kind) (N : Nat) (k0 : Option (Int)) (i3 : Int) : Option (Int) :=
 bif decide (i3 < (List.length a0 : Int)) then ((ix a0 i3).bind fun x1 =>
 (f56 N x1.W (1 : Int) (12 : Int)).bind fun x2 =>
 bif !x2 then (some ((3 : Int)))
 else ((f56 N x1.H (1 : Int) (12 : Int)).bind fun x3 =>
 bif !x3 then (some ((3 : Int)))
 else ((f56 N x1.Value (0 : Int) (1000 : Int)).bind fun x4 =>
 bif !x4 then (some ((3 : Int)))
 else (r6 (W (i3 + (1 : Int)))))))
 else k0
def f50_6 (a0 : List Kind) (N : Nat) (k0 : Option (Int)) : Nat → Int → Option (Int)
  | 0, _ => none
  | n + 1, i3 => f50_6b (f50_6 a0 N k0 n) a0 N k0 i3
def Sf50_6 : Ann := ⟨[0, 3], [], [], []⟩
def Vf50_6 (a0 : List Kind) (i3 : Int) : List SV := [.dat (sl_Kind a0), .dat (iN i3)]
def Bf50_6 (a0 : List Kind) (i3 : Int) : List Blk := []
def Yf50_6 (a0 : List Kind) (y : Nat × Int) : List SV := Vf50_6 a0 y.2
def Xf50_6 (a0 : List Kind) (y : Nat × Int) : List Blk := Bf50_6 a0 y.2
def Jf50_6 (a0 : List Kind) (N : Nat) (k0 : Option (Int)) (r : Int) (y : Nat × Int) : Prop := f50_6 a0 N k0 y.1 y.2 = some r
theorem Lf50_6 {r : Int} {a0 : List Kind} {N : Nat} {k0 : Option (Int)} {fu : Nat} {i3 : Int} (hz : Sf50_6.ok p = true) (h0 : AtH Sf50_6 st (Vf50_6 a0 i3) (Bf50_6 a0 i3)) (h : ∀ (n : Nat) (i3 : Int), f50_6b (f50_6 a0 N k0 n) a0 N k0 i3 = some r → vc c p nid a (St.mk' Sf50_6 (Vf50_6 a0 i3) (Bf50_6 a0 i3)) (Kloop Sf50_6 (Yf50_6 a0) (Xf50_6 a0) (Jf50_6 a0 N k0 r) Prod.fst (n + 1, i3) K)) (hF : f50_6 a0 N k0 fu i3 = some r) : vc c p nid (.loop a) st K := by
  refine vc_loop Sf50_6 (Yf50_6 a0) (Xf50_6 a0) (Jf50_6 a0 N k0 r) Prod.fst hz (kheadL (x := (fu, i3)) hF h0) ?_
  rintro ⟨_ | n, i3⟩ hI
  · cases hI
  · exact h n i3 hI
theorem Mf50_6 {r : Int} {a0 : List Kind} {N : Nat} {k0 : Option (Int)} {n : Nat} {i3 : Int} {i3_ : Int} (hF : f50_6 a0 N k0 n i3 = some r) (h0 : AtH Sf50_6 st (Vf50_6 a0 i3) (Bf50_6 a0 i3)) : Kloop Sf50_6 (Yf50_6 a0) (Xf50_6 a0) (Jf50_6 a0 N k0 r) Prod.fst (n + 1, i3_) K .normal st := by
  exact kback (y := (n, i3)) hF (Nat.lt_succ_self n) h0
def f50 (N : Nat) (a0 : List Kind) : Option (Int) :=
 bif decide ((List.length a0 : Int) = (0 : Int)) then (some ((1 : Int)))
 else (bif decide ((6 : Int) < (List.length a0 : Int)) then (some ((2 : Int)))
 else (joinK f50_c11 fun k0 =>
 f50_6 a0 N k0 N (0 : Int)))
def G50 (ds : List D) (d : D) : Prop := ∃ (N : Nat) (a0 : List Kind) (r : Int), ds = [sl_Kind a0] ∧ f50 N a0 = some r ∧ d = iN r
theorem G50.step {N : Nat} {a0 : List Kind} {ρ : Type} {A : Int → Option ρ} {q : ρ} {ds : List D} {K : D → Prop} (hd : ds = [sl_Kind a0]) (h : ∀ r, A r = some q → K (iN r)) (hF : (f50 N a0).bind A = some q) : ∃ d, G50 ds d ∧ K d := by
  obtain ⟨r, hr, hA⟩ := bind_some hF
  exact ⟨_, ⟨N, a0, r, hd, hr, rfl⟩, h r hA⟩
set_option maxRecDepth 20000 in
set_option maxHeartbeats 4000000 in
theorem P50 : PureOK Try.prog 50 G50 := by
  refine pure_of_vc (c := mkCtx tyTree [(56, true, purePg [[0], [0], [0]] G56)]) rfl tyOK (ctx_cons (callable Try.func56 rfl rfl) P56 (ctx_nil)) [[0]] 1 Try.func50 rfl rfl (by decide) (by kernel_rfl) ?_
  rintro ds d ⟨N, a0, r, rfl, hF, rfl⟩ hok
  clear hok
  refine ⟨rfl, ?_⟩
  show vc _ _ _ _ ⟨[(0, .dat (sl_Kind a0))], []⟩ _
  unfold f50 at hF
  repeat' (first
    | ((with_reducible refine q0 _ _ ?_); clear Q q0 q1 q2)
    | ((with_reducible refine q1 _ _ _ _ ?_); clear Q q0 q1 q2)
    | ((with_reducible refine q2 _ _ _ ?_); clear Q q0 q1 q2)
    | ((with_reducible refine seq_op ?hx (fun Q q0 q1 q2 => ?_)); (case hx => exact rfl); conv => whnf)
    | ((with_reducible refine seq_op0 ?hx (fun Q q0 q1 q2 => ?_)); (case hx => exact rfl); conv => whnf)
    | ((with_reducible refine seq_off ?hx ?_); (case hx => exact rfl))
    | ((with_reducible refine seq_off0 ?hx ?_); (case hx => exact rfl))
    | ((with_reducible refine seq_id ?_); (first | ((refine seq_opK rfl ?hy (fun Q q0 q1 q2 => ?_)); (case hy => first | assumption | exact notT (by assumption) | exact rfl); conv => whnf) | ((refine seq_offK rfl ?hy ?_); (case hy => first | assumption | exact notF (by assumption) | exact rfl)) | ((refine seq_opK0 rfl ?hy (fun Q q0 q1 q2 => ?_)); (case hy => first | assumption | exact notT (by assumption) | exact rfl); conv => whnf) | ((refine seq_offK0 rfl ?hy ?_); (case hy => first | assumption | exact notF (by assumption) | exact rfl)) | (revert hF; (with_reducible refine seq_opF ?hx ?_ ?_); (case hx => exact rfl); (intro hc hF Q q0 q1 q2; conv => whnf); rotate_left; (intro hc hF); rotate_right) | (revert hF; (with_reducible refine seq_opN ?hx ?_ ?_); (case hx => exact rfl); (intro hc hF); rotate_left; (intro hc hF Q q0 q1 q2; conv => whnf); rotate_right) | (revert hF; (with_reducible refine seq_opF0 ?hx ?_ ?_); (case hx => exact rfl); (intro hc hF Q q0 q1 q2; conv => whnf); rotate_left; (intro hc hF); rotate_right) | (revert hF; (with_reducible refine seq_opN0 ?hx ?_ ?_); (case hx => exact rfl); (intro hc hF); rotate_left; (intro hc hF Q q0 q1 q2; conv => whnf); rotate_right)))
    | ((with_reducible refine cond_id ?_); (first | ((refine condKT rfl ?hy ?_); (case hy => first | assumption | exact notT (by assumption) | exact rfl)) | ((refine condKF rfl ?hy ?_); (case hy => first | assumption | exact notF (by assumption) | exact rfl)) | (revert hF; (with_reducible refine condF ?hx ?_ ?_); (case hx => exact rfl); all_goals (intro hc hF))))
    | ((with_reducible refine seq_nil ?_); (first | ((with_reducible refine hR _ ?_); clear R hR) | ((with_reducible refine hL _ ?_); clear L hL)))
    | ((with_reducible refine int_step ?_); conv => whnf)
    | ((with_reducible refine len_step ?_); conv => whnf)
    | ((with_reducible refine idx2 (by assumption) ?_); conv => whnf)
    | ((with_reducible refine idx3 (by assumption) ?_); conv => whnf)
    | with_reducible refine vc_block ?_
    | with_reducible refine vc_skip ?_
    | with_reducible refine vc_ret ?_
    | with_reducible refine vc_exit ?_
    | ((with_reducible refine vc_seqN [11] ?hx ?_); (case hx => exact rfl))
    | (with_reducible refine vc_region (fun R hR => ?_))
    | fail
    | (revert hF; (refine Cf50_c11 rfl rfl ?_ ?_); (intro hF); rotate_left; (intro _ hF; unfold f50_c11 at hF); rotate_right)
    | exact Zf50_c11 hF ⟨_, rfl, rfl, rfl, rfl⟩
    | (revert hF; (refine Lf50_6 rfl ⟨_, rfl, rfl, rfl, rfl⟩ ?_); intro n i3 hF; unfold f50_6b at hF)
    | exact Mf50_6 hF ⟨_, rfl, rfl, rfl, rfl⟩
    | (revert hF; (with_reducible refine G56.step ?hx ?_); (case hx => exact rfl); intro v hF; conv => whnf)
    | with_reducible refine k_seq_ret ?_
    | with_reducible refine k_seq_exit ?_
    | with_reducible refine k_blk ?_
    | with_reducible refine k_blk_ret ?_
    | with_reducible refine k_blk_here ?_
    | ((with_reducible refine k_blk_out ?hx ?_); (case hx => exact rfl))
    | with_reducible refine k_loop_ret ?_
    | with_reducible refine k_loop_exit ?_
    | (revert hF; (with_reducible refine idx1 ?hn ?_); (case hn => first | exact rfl | exact (List.length_map _) | assumption | omega | simp); intro x hx hF; conv => whnf)
    | ((refine row_all ?hn ?_); (case hn => first | exact rfl | (simp; done) | (simp; omega)); conv => whnf)
    | ((with_reducible refine le_step ?hn ?_); (case hn => first | exact rfl | assumption | omega); conv => whnf)
    | ((refine ⟨?hx, ?_⟩); (case hx => exact ⟨rfl, Nat.le_of_ble_eq_true rfl, rfl⟩); conv => whnf)
    | ((with_reducible refine ex_step ?_); conv => whnf)
    | ((with_reducible refine both_T ?hx ?_); (case hx => first | exact rfl | assumption | exact notT (by assumption)); conv => whnf)
    | ((with_reducible refine both_F ?hx ?_); (case hx => first | exact rfl | assumption | exact notF (by assumption)); conv => whnf)
    | (revert hF; (with_reducible refine ite_step ?_ ?_) <;> (intro hc hF; conv => whnf))
    | ((with_reducible refine vc_condT ?hx ?_); (case hx => exact rfl))
    | ((with_reducible refine vc_condF ?hx ?_); (case hx => exact rfl))
    | (show retD _ _ _ _ _ _; conv => whnf)
    | ((refine ⟨?hx, trivial⟩); (case hx => (cases hF; exact rfl)))
    | ((refine ⟨?hx, ?_⟩); (case hx => decide); conv => whnf)
    | ((with_reducible refine k_seq ?_))
    | (have hF : (none : Option _) = some _ := hF; cases hF))
end
end Go.Vc
namespace Go.Vc
open Go.Proofs
set_option linter.unusedVariables false
set_option linter.unnecessarySimpa false
set_option linter.unusedSimpArgs false
section
variable {c : Ctx} {p nid : Nat} {a b : Code} {st : St} {K : Ex → St → Prop}
/- f51: tusche/tuscheref06.worth -/
def f51_c7 (out7 : Int) : Option (Int) :=
 some (out7)
def Sf51_c7 : Ann := ⟨[7], [], [], []⟩
def Vf51_c7 (out7 : Int) : List SV := [.dat (iN out7)]
def Bf51_c7 (out7 : Int) : List Blk := []
def Yf51_c7 (y : Int) : List SV := Vf51_c7 y
def Xf51_c7 (y : Int) : List Blk := Bf51_c7 y
def Jf51_c7 (r : Int) (y : Int) : Prop := f51_c7 y = some r
theorem Cf51_c7 {r : Int} {g : _ → Option (Int)} (hn : Nat.beq (nid * 1000 + firstRegion b) 7 = true) (hz : Sf51_c7.ok p = true) (h : g f51_c7 = some r → vc c p nid a st (KHead Sf51_c7 Yf51_c7 Xf51_c7 (Jf51_c7 r) K)) (h2 : ∀ (out7 : Int), f51_c7 out7 = some r → vc c p nid b (St.mk' Sf51_c7 (Vf51_c7 out7) (Bf51_c7 out7)) K) (hF : joinK f51_c7 g = some r) : vc c p nid (.seq a b) st K :=
  vc_cut Sf51_c7 Yf51_c7 Xf51_c7 (Jf51_c7 r) hz (h hF) fun y hy => h2 y hy
theorem Zf51_c7 {r : Int} {out7 : Int} (hF : f51_c7 out7 = some r) (h0 : AtH Sf51_c7 st (Vf51_c7 out7) (Bf51_c7 out7)) : KHead Sf51_c7 Yf51_c7 Xf51_c7 (Jf51_c7 r) K .normal st := by
  exact khead (I := (Jf51_c7 r)) (x := (out7)) hF h0
def f51_3b (r3 : Int → Int → Option (Int)) (a0 : Int) (a1 : Int) (a2 : List Kind) (k0 : Int → Option (Int)) (out7 : Int) (i8 : Int) : Option (Int) :=
 bif decide (i8 < (List.length a2 : Int)) then ((ix a2 i8).bind fun x1 =>
 bif decide (x1.W = a0) then ((ix a2 i8).bind fun x2 =>
 bif decide (x2.H = a1) then ((ix a2 i8).bind fun x3 =>
 r3 (max out7 x3.Value) (W (i8 + (1 : Int))))
 else (r3 out7 (W (i8 + (1 : Int)))))
 else (r3 out7 (W (i8 + (1 : Int)))))
 else (k0 out7)
def f51_3 (a0 : Int) (a1 : Int) (a2 : List Kind) (k0 : Int → Option (Int)) : Nat → Int → Int → Option (Int)
  | 0, _, _ => none
  | n + 1, out7, i8 => f51_3b (f51_3 a0 a1 a2 k0 n) a0 a1 a2 k0 out7 i8
def Sf51_3 : Ann := ⟨[0, 1, 2, 7, 8], [], [], []⟩
def Vf51_3 (a0 : Int) (a1 : Int) (a2 : List Kind) (out7 : Int) (i8 : Int) : List SV := [.dat (iN a0), .dat (iN a1), .dat (sl_Kind a2), .dat (iN out7), .dat (iN i8)]
def Bf51_3 (a0 : Int) (a1 : Int) (a2 : List Kind) (out7 : Int) (i8 : Int) : List Blk := []
def Yf51_3 (a0 : Int) (a1 : Int) (a2 : List Kind) (y : Nat × Int × Int) : List SV := Vf51_3 a0 a1 a2 y.2.1 y.2.2
def Xf51_3 (a0 : Int) (a1 : Int) (a2 : List Kind) (y : Nat × Int × Int) : List Blk := Bf51_3 a0 a1 a2 y.2.1 y.2.2
def Jf51_3 (a0 : Int) (a1 : Int) (a2 : List Kind) (k0 : Int → Option (Int)) (r : Int) (y : Nat × Int × Int) : Prop := f51_3 a0 a1 a2 k0 y.1 y.2.1 y.2.2 = some r
theorem Lf51_3 {r : Int} {a0 : Int} {a1 : Int} {a2 : List Kind} {k0 : Int → Option (Int)} {fu : Nat} {out7 : Int} {i8 : Int} (hz : Sf51_3.ok p = true) (h0 : AtH Sf51_3 st (Vf51_3 a0 a1 a2 out7 i8) (Bf51_3 a0 a1 a2 out7 i8)) (h : ∀ (n : Nat) (out7 : Int) (i8 : Int), f51_3b (f51_3 a0 a1 a2 k0 n) a0 a1 a2 k0 out7 i8 = some r → vc c p nid a (St.mk' Sf51_3 (Vf51_3 a0 a1 a2 out7 i8) (Bf51_3 a0 a1 a2 out7 i8)) (Kloop Sf51_3 (Yf51_3 a0 a1 a2) (Xf51_3 a0 a1 a2) (Jf51_3 a0 a1 a2 k0 r) Prod.fst (n + 1, out7, i8) K)) (hF : f51_3 a0 a1 a2 k0 fu out7 i8 = some r) : vc c p nid (.loop a) st K := by
  refine vc_loop Sf51_3 (Yf51_3 a0 a1 a2) (Xf51_3 a0 a1 a2) (Jf51_3 a0 a1 a2 k0 r) Prod.fst hz (kheadL (x := (fu, out7, i8)) hF h0) ?_
  rintro ⟨_ | n, out7, i8⟩ hI
  · cases hI
  · exact h n out7 i8 hI
theorem Mf51_3 {r : Int} {a0 : Int} {a1 : Int} {a2 : List Kind} {k0 : Int → Option (Int)} {n : Nat} {out7 : Int} {i8 : Int} {out7_ : Int} {i8_ : Int} (hF : f51_3 a0 a1 a2 k0 n out7 i8 = some r) (h0 : AtH Sf51_3 st (Vf51_3 a0 a1 a2 out7 i8) (Bf51_3 a0 a1 a2 out7 i8)) : Kloop Sf51_3 (Yf51_3 a0 a1 a2) (Xf51_3 a0 a1 a2) (Jf51_3 a0 a1 a2 k0 r) Prod.fst (n + 1, out7_, i8_) K .normal st := by
  exact kback (y := (n, out7, i8)) hF (Nat.lt_succ_self n) h0
def f51 (N : Nat) (a0 : Int) (a1 : Int) (a2 : List Kind) : Option (Int) :=
 joinK f51_c7 fun k0 =>
 f51_3 a0 a1 a2 k0 N (-1 : Int) (0 : Int)
def G51 (ds : List D) (d : D) : Prop := ∃ (N : Nat) (a0 : Int) (a1 : Int) (a2 : List Kind) (r : Int), ds = [iN a0, iN a1, sl_Kind a2] ∧ f51 N a0 a1 a2 = some r ∧ d = iN r
theorem G51.step {N : Nat} {a0 : Int} {a1 : Int} {a2 : List Kind} {ρ : Type} {A : Int → Option ρ} {q : ρ} {ds : List D} {K : D → Prop} (hd : ds = [iN a0, iN a1, sl_Kind a2]) (h : ∀ r, A r = some q → K (iN r)) (hF : (f51 N a0 a1 a2).bind A = some q) : ∃ d, G51 ds d ∧ K d := by
  obtain ⟨r, hr, hA⟩ := bind_some hF
  exact ⟨_, ⟨N, a0, a1, a2, r, hd, hr, rfl⟩, h r hA⟩
set_option maxRecDepth 20000 in
set_option maxHeartbeats 4000000 in
theorem P51 : PureOK Try.prog 51 G51 := by
  refine pure_of_vc (c := mkCtx tyTree []) rfl tyOK (ctx_nil) [[0]] 3 Try.func51 rfl rfl (by decide) (by kernel_rfl) ?_
  rintro ds d ⟨N, a0, a1, a2, r, rfl, hF, rfl⟩ hok
  clear hok
  refine ⟨rfl, ?_⟩
  show vc _ _ _ _ ⟨[(0, .dat (iN a0)), (1, .dat (iN a1)), (2, .dat (sl_Kind a2))], []⟩ _
  unfold f51 at hF
  repeat' (first
    | ((with_reducible refine q0 _ _ ?_); clear Q q0 q1 q2)
    | ((with_reducible refine q1 _ _ _ _ ?_); clear Q q0 q1 q2)
    | ((with_reducible refine q2 _ _ _ ?_); clear Q q0 q1 q2)
    | ((with_reducible refine seq_op ?hx (fun Q q0 q1 q2 => ?_)); (case hx => exact rfl); conv => whnf)
    | ((with_reducible refine seq_off ?hx ?_); (case hx => exact rfl))
    | ((with_reducible refine seq_off0 ?hx ?_); (case hx => exact rfl))
    | ((with_reducible refine seq_id ?_); (first | ((refine seq_opK rfl ?hy (fun Q q0 q1 q2 => ?_)); (case hy => first | assumption | exact notT (by assumption) | exact rfl); conv => whnf) | ((refine seq_offK rfl ?hy ?_); (case hy => first | assumption | exact notF (by assumption) | exact rfl)) | ((refine seq_opK0 rfl ?hy (fun Q q0 q1 q2 => ?_)); (case hy => first | assumption | exact notT (by assumption) | exact rfl); conv => whnf) | ((refine seq_offK0 rfl ?hy ?_); (case hy => first | assumption | exact notF (by assumption) | exact rfl)) | (revert hF; (with_reducible refine seq_opF ?hx ?_ ?_); (case hx => exact rfl); (intro hc hF Q q0 q1 q2; conv => whnf); rotate_left; (intro hc hF); rotate_right) | (revert hF; (with_reducible refine seq_opN ?hx ?_ ?_); (case hx => exact rfl); (intro hc hF); rotate_left; (intro hc hF Q q0 q1 q2; conv => whnf); rotate_right) | (revert hF; (with_reducible refine seq_opF0 ?hx ?_ ?_); (case hx => exact rfl); (intro hc hF Q q0 q1 q2; conv => whnf); rotate_left; (intro hc hF); rotate_right) | (revert hF; (with_reducible refine seq_opN0 ?hx ?_ ?_); (case hx => exact rfl); (intro hc hF); rotate_left; (intro hc hF Q q0 q1 q2; conv => whnf); rotate_right)))
    | ((with_reducible refine cond_id ?_); (first | ((refine condKT rfl ?hy ?_); (case hy => first | assumption | exact notT (by assumption) | exact rfl)) | ((refine condKF rfl ?hy ?_); (case hy => first | assumption | exact notF (by assumption) | exact rfl)) | (revert hF; (with_reducible refine condF ?hx ?_ ?_); (case hx => exact rfl); all_goals (intro hc hF))))
    | ((with_reducible refine seq_nil ?_); (first | ((with_reducible refine hR _ ?_); clear R hR) | ((with_reducible refine hL _ ?_); clear L hL)))
    | ((with_reducible refine int_step ?_); conv => whnf)
    | ((with_reducible refine len_step ?_); conv => whnf)
    | ((with_reducible refine idx2 (by assumption) ?_); conv => whnf)
    | ((with_reducible refine idx3 (by assumption) ?_); conv => whnf)
    | with_reducible refine vc_block ?_
    | with_reducible refine vc_skip ?_
    | with_reducible refine vc_ret ?_
    | with_reducible refine vc_exit ?_
    | ((with_reducible refine vc_seqN [7] ?hx ?_); (case hx => exact rfl))
    | (with_reducible refine vc_region (fun R hR => ?_))
    | fail
    | (revert hF; (refine Cf51_c7 rfl rfl ?_ ?_); (intro hF); rotate_left; (intro out7 hF; unfold f51_c7 at hF); rotate_right)
    | exact Zf51_c7 hF ⟨_, rfl, rfl, rfl, rfl⟩
    | (revert hF; (refine Lf51_3 rfl ⟨_, rfl, rfl, rfl, rfl⟩ ?_); intro n out7 i8 hF; unfold f51_3b at hF)
    | exact Mf51_3 hF ⟨_, rfl, rfl, rfl, rfl⟩
    | with_reducible refine k_seq_ret ?_
    | with_reducible refine k_seq_exit ?_
    | with_reducible refine k_blk ?_
    | with_reducible refine k_blk_ret ?_
    | with_reducible refine k_blk_here ?_
    | ((with_reducible refine k_blk_out ?hx ?_); (case hx => exact rfl))
    | with_reducible refine k_loop_ret ?_
    | with_reducible refine k_loop_exit ?_
    | (revert hF; (with_reducible refine idx1 ?hn ?_); (case hn => first | exact rfl | exact (List.length_map _) | assumption | omega | simp); intro x hx hF; conv => whnf)
    | ((refine row_all ?hn ?_); (case hn => first | exact rfl | (simp; done) | (simp; omega)); conv => whnf)
    | ((with_reducible refine le_step ?hn ?_); (case hn => first | exact rfl | assumption | omega); conv => whnf)
    | ((refine ⟨?hx, ?_⟩); (case hx => exact ⟨rfl, Nat.le_of_ble_eq_true rfl, rfl⟩); conv => whnf)
    | ((with_reducible refine ex_step ?_); conv => whnf)
    | ((with_reducible refine both_T ?hx ?_); (case hx => first | exact rfl | assumption | exact notT (by assumption)); conv => whnf)
    | ((with_reducible refine both_F ?hx ?_); (case hx => first | exact rfl | assumption | exact notF (by assumption)); conv => whnf)
    | (revert hF; (with_reducible refine ite_step ?_ ?_) <;> (intro hc hF; conv => whnf))
    | ((with_reducible refine vc_condT ?hx ?_); (case hx => exact rfl))
    | ((with_reducible refine vc_condF ?hx ?_); (case hx => exact rfl))
    | (show retD _ _ _ _ _ _; conv => whnf)
    | ((refine ⟨?hx, trivial⟩); (case hx => (cases hF; exact rfl)))
    | ((refine ⟨?hx, ?_⟩); (case hx => decide); conv => whnf)
    | ((with_reducible refine k_seq ?_))
    | (have hF : (none : Option _) = some _ := hF; cases hF))
end
end Go.Vc
namespace Go.Vc
open Go.Proofs
set_option linter.unusedVariables false
set_option linter.unnecessarySimpa false
set_option linter.unusedSimpArgs false
section
variable {c : Ctx} {p nid : Nat} {a b : Code} {st : St} {K : Ex → St → Prop}
/- f18: tusche/tuscheref06.Worth -/
def f18_c14 (sum7 : Int) : Option (Int × Int) :=
 some (sum7, (0 : Int))
def Sf18_c14 : Ann := ⟨[7], [], [], []⟩
def Vf18_c14 (sum7 : Int) : List SV := [.dat (iN sum7)]
def Bf18_c14 (sum7 : Int) : List Blk := []
def Yf18_c14 (y : Int) : List SV := Vf18_c14 y
def Xf18_c14 (y : Int) : List Blk := Bf18_c14 y
def Jf18_c14 (r : Int × Int) (y : Int) : Prop := f18_c14 y = some r
theorem Cf18_c14 {r : Int × Int} {g : _ → Option (Int × Int)} (hn : Nat.beq (nid * 1000 + firstRegion b) 14 = true) (hz : Sf18_c14.ok p = true) (h : g f18_c14 = some r → vc c p nid a st (KHead Sf18_c14 Yf18_c14 Xf18_c14 (Jf18_c14 r) K)) (h2 : ∀ (sum7 : Int), f18_c14 sum7 = some r → vc c p nid b (St.mk' Sf18_c14 (Vf18_c14 sum7) (Bf18_c14 sum7)) K) (hF : joinK f18_c14 g = some r) : vc c p nid (.seq a b) st K :=
  vc_cut Sf18_c14 Yf18_c14 Xf18_c14 (Jf18_c14 r) hz (h hF) fun y hy => h2 y hy
theorem Zf18_c14 {r : Int × Int} {sum7 : Int} (hF : f18_c14 sum7 = some r) (h0 : AtH Sf18_c14 st (Vf18_c14 sum7) (Bf18_c14 sum7)) : KHead Sf18_c14 Yf18_c14 Xf18_c14 (Jf18_c14 r) K .normal st := by
  exact khead (I := (Jf18_c14 r)) (x := (sum7)) hF h0
def f18_8b (r8 : Int → Int → Option (Int × Int)) (a0 : Layout) (a1 : List Kind) (N : Nat) (k0 : Int → Option (Int × Int)) (sum7 : Int) (i8 : Int) : Option (Int × Int) :=
 bif decide (i8 < (List.length a0.Labels : Int)) then ((ix a0.Labels i8).bind fun x2 =>
 (ix a0.Labels i8).bind fun x3 =>
 (f51 N x2.W x3.H a1).bind fun x4 =>
 bif decide (x4 < (0 : Int)) then (some ((0 : Int), (13 : Int)))
 else (r8 (W (sum7 + x4)) (W (i8 + (1 : Int)))))
 else (k0 sum7)
def f18_8 (a0 : Layout) (a1 : List Kind) (N : Nat) (k0 : Int → Option (Int × Int)) : Nat → Int → Int → Option (Int × Int)
  | 0, _, _ => none
  | n + 1, sum7, i8 => f18_8b (f18_8 a0 a1 N k0 n) a0 a1 N k0 sum7 i8
def Sf18_8 : Ann := ⟨[1, 2, 7, 8], [0], [], []⟩
def Vf18_8 (a0 : Layout) (a1 : List Kind) (sum7 : Int) (i8 : Int) : List SV := [.dat (sl_Kind a1), .ptr 0 0, .dat (iN sum7), .dat (iN i8)]
def Bf18_8 (a0 : Layout) (a1 : List Kind) (sum7 : Int) (i8 : Int) : List Blk := [.box [.dat (iN a0.W), .dat (iN a0.H), .dat (sl_Label a0.Labels)]]
def Yf18_8 (a0 : Layout) (a1 : List Kind) (y : Nat × Int × Int) : List SV := Vf18_8 a0 a1 y.2.1 y.2.2
def Xf18_8 (a0 : Layout) (a1 : List Kind) (y : Nat × Int × Int) : List Blk := Bf18_8 a0 a1 y.2.1 y.2.2
def Jf18_8 (a0 : Layout) (a1 : List Kind) (N : Nat) (k0 : Int → Option (Int × Int)) (r : Int × Int) (y : Nat × Int × Int) : Prop := f18_8 a0 a1 N k0 y.1 y.2.1 y.2.2 = some r
theorem Lf18_8 {r : Int × Int} {a0 : Layout} {a1 : List Kind} {N : Nat} {k0 : Int → Option (Int × Int)} {fu : Nat} {sum7 : Int} {i8 : Int} (hz : Sf18_8.ok p = true) (h0 : AtH Sf18_8 st (Vf18_8 a0 a1 sum7 i8) (Bf18_8 a0 a1 sum7 i8)) (h : ∀ (n : Nat) (sum7 : Int) (i8 : Int), f18_8b (f18_8 a0 a1 N k0 n) a0 a1 N k0 sum7 i8 = some r → vc c p nid a (St.mk' Sf18_8 (Vf18_8 a0 a1 sum7 i8) (Bf18_8 a0 a1 sum7 i8)) (Kloop Sf18_8 (Yf18_8 a0 a1) (Xf18_8 a0 a1) (Jf18_8 a0 a1 N k0 r) Prod.fst (n + 1, sum7, i8) K)) (hF : f18_8 a0 a1 N k0 fu sum7 i8 = some r) : vc c p nid (.loop a) st K := by
  refine vc_loop Sf18_8 (Yf18_8 a0 a1) (Xf18_8 a0 a1) (Jf18_8 a0 a1 N k0 r) Prod.fst hz (kheadL (x := (fu, sum7, i8)) hF h0) ?_
  rintro ⟨_ | n, sum7, i8⟩ hI
  · cases hI
  · exact h n sum7 i8 hI
theorem Mf18_8 {r : Int × Int} {a0 : Layout} {a1 : List Kind} {N : Nat} {k0 : Int → Option (Int × Int)} {n : Nat} {sum7 : Int} {i8 : Int} {sum7_ : Int} {i8_ : Int} (hF : f18_8 a0 a1 N k0 n sum7 i8 = some r) (h0 : AtH Sf18_8 st (Vf18_8 a0 a1 sum7 i8) (Bf18_8 a0 a1 sum7 i8)) : Kloop Sf18_8 (Yf18_8 a0 a1) (Xf18_8 a0 a1) (Jf18_8 a0 a1 N k0 r) Prod.fst (n + 1, sum7_, i8_) K .normal st := by
  exact kback (y := (n, sum7, i8)) hF (Nat.lt_succ_self n) h0
def f18_c4 (a0 : Layout) (a1 : List Kind) (N : Nat) (e6 : Int) : Option (Int × Int) :=
 bif decide (¬ e6 = (0 : Int)) then (some ((0 : Int), e6))
 else (joinK f18_c14 fun k0 =>
 f18_8 a0 a1 N k0 N (0 : Int) (0 : Int))
def Sf18_c4 : Ann := ⟨[1, 2, 6], [0], [], []⟩
def Vf18_c4 (a0 : Layout) (a1 : List Kind) (e6 : Int) : List SV := [.dat (sl_Kind a1), .ptr 0 0, .dat (iN e6)]
def Bf18_c4 (a0 : Layout) (a1 : List Kind) (e6 : Int) : List Blk := [.box [.dat (iN a0.W), .dat (iN a0.H), .dat (sl_Label a0.Labels)]]
def Yf18_c4 (a0 : Layout) (a1 : List Kind) (y : Int) : List SV := Vf18_c4 a0 a1 y
def Xf18_c4 (a0 : Layout) (a1 : List Kind) (y : Int) : List Blk := Bf18_c4 a0 a1 y
def Jf18_c4 (a0 : Layout) (a1 : List Kind) (N : Nat) (r : Int × Int) (y : Int) : Prop := f18_c4 a0 a1 N y = some r
theorem Cf18_c4 {r : Int × Int} {a0 : Layout} {a1 : List Kind} {N : Nat} {g : _ → Option (Int × Int)} (hn : Nat.beq (nid * 1000 + firstRegion b) 4 = true) (hz : Sf18_c4.ok p = true) (h : g (f18_c4 a0 a1 N) = some r → vc c p nid a st (KHead Sf18_c4 (Yf18_c4 a0 a1) (Xf18_c4 a0 a1) (Jf18_c4 a0 a1 N r) K)) (h2 : ∀ (e6 : Int), f18_c4 a0 a1 N e6 = some r → vc c p nid b (St.mk' Sf18_c4 (Vf18_c4 a0 a1 e6) (Bf18_c4 a0 a1 e6)) K) (hF : joinK (f18_c4 a0 a1 N) g = some r) : vc c p nid (.seq a b) st K :=
  vc_cut Sf18_c4 (Yf18_c4 a0 a1) (Xf18_c4 a0 a1) (Jf18_c4 a0 a1 N r) hz (h hF) fun y hy => h2 y hy
theorem Zf18_c4 {r : Int × Int} {a0 : Layout} {a1 : List Kind} {N : Nat} {e6 : Int} (hF : f18_c4 a0 a1 N e6 = some r) (h0 : AtH Sf18_c4 st (Vf18_c4 a0 a1 e6) (Bf18_c4 a0 a1 e6)) : KHead Sf18_c4 (Yf18_c4 a0 a1) (Xf18_c4 a0 a1) (Jf18_c4 a0 a1 N r) K .normal st := by
  exact khead (I := (Jf18_c4 a0 a1 N r)) (x := (e6)) hF h0
def f18 (N : Nat) (a0 : Layout) (a1 : List Kind) : Option (Int × Int) :=
 (f21 N a0).bind fun x1 =>
 joinK (f18_c4 a0 a1 N) fun k1 =>
 bif decide (x1 = (0 : Int)) then ((f50 N a1).bind fun x5 =>
 k1 x5)
 else (k1 x1)
def G18 (ds : List D) (d : D) : Prop := ∃ (N : Nat) (a0 : Layout) (a1 : List Kind) (r : Int × Int), ds = [Layout.d a0, sl_Kind a1] ∧ f18 N a0 a1 = some r ∧ d = .tup [iN r.1, iN r.2]
theorem G18.step {N : Nat} {a0 : Layout} {a1 : List Kind} {ρ : Type} {A : (Int × Int) → Option ρ} {q : ρ} {ds : List D} {K : D → Prop} (hd : ds = [Layout.d a0, sl_Kind a1]) (h : ∀ r, A r = some q → K (.tup [iN r.1, iN r.2])) (hF : (f18 N a0 a1).bind A = some q) : ∃ d, G18 ds d ∧ K d := by
  obtain ⟨r, hr, hA⟩ := bind_some hF
  exact ⟨_, ⟨N, a0, a1, r, hd, hr, rfl⟩, h r hA⟩
set_option maxRecDepth 20000 in
set_option maxHeartbeats 4000000 in
theorem P18 : PureOK Try.prog 18 G18 := by
  refine pure_of_vc (c := mkCtx tyTree [(51, true, purePg [[0], [0], [3]] G51), (50, true, purePg [[3]] G50), (21, true, purePg [[0, 0, 4]] G21)]) rfl tyOK (ctx_cons (callable Try.func51 rfl rfl) P51 (ctx_cons (callable Try.func50 rfl rfl) P50 (ctx_cons (callable Try.func21 rfl rfl) P21 (ctx_nil)))) [[0], [0]] 2 Try.func18 rfl rfl (by decide) (by kernel_rfl) ?_
  rintro ds d ⟨N, a0, a1, r, rfl, hF, rfl⟩ hok
  clear hok
  refine ⟨rfl, ?_⟩
  show vc _ _ _ _ ⟨[(0, .dat (Layout.d a0)), (1, .dat (sl_Kind a1))], []⟩ _
  unfold f18 at hF
  repeat' (first
    | ((with_reducible refine q0 _ _ ?_); clear Q q0 q1 q2)
    | ((with_reducible refine q1 _ _ _ _ ?_); clear Q q0 q1 q2)
    | ((with_reducible refine q2 _ _ _ ?_); clear Q q0 q1 q2)
    | ((with_reducible refine seq_op ?hx (fun Q q0 q1 q2 => ?_)); (case hx => exact rfl); conv => whnf)
    | ((with_reducible refine draw_op ?hx (fun Q q0 q1 q2 => ?_)); (case hx => exact rfl); conv => whnf)
    | ((with_reducible refine cond_id ?_); (first | ((refine condKT rfl ?hy ?_); (case hy => first | assumption | exact notT (by assumption) | exact rfl)) | ((refine condKF rfl ?hy ?_); (case hy => first | assumption | exact notF (by assumption) | exact rfl)) | (revert hF; (with_reducible refine condF ?hx ?_ ?_); (case hx => exact rfl); all_goals (intro hc hF))))
    | ((with_reducible refine seq_nil ?_); (first | ((with_reducible refine hR _ ?_); clear R hR) | ((with_reducible refine hL _ ?_); clear L hL)))
    | ((with_reducible refine draw_nil ?_); (with_reducible refine hR _ _ ?hx ?_); (case hx => kernel_rfl); (first | clear R hR | clear hR))
    | ((with_reducible refine int_step ?_); conv => whnf)
    | ((with_reducible refine len_step ?_); conv => whnf)
    | ((with_reducible refine idx2 (by assumption) ?_); conv => whnf)
    | ((with_reducible refine idx3 (by assumption) ?_); conv => whnf)
    | with_reducible refine vc_block ?_
    | with_reducible refine vc_skip ?_
    | with_reducible refine vc_ret ?_
    | with_reducible refine vc_exit ?_
    | ((with_reducible refine vc_seqN [14, 4] ?hx ?_); (case hx => exact rfl))
    | (with_reducible refine vc_region (fun R hR => ?_))
    | ((with_reducible refine vc_draw ?hx (fun R hR => ?_)); (case hx => exact rfl))
    | fail
    | (revert hF; (refine Cf18_c14 rfl rfl ?_ ?_); (intro hF); rotate_left; (intro sum7 hF; unfold f18_c14 at hF); rotate_right)
    | exact Zf18_c14 hF ⟨_, rfl, rfl, rfl, rfl⟩
    | (revert hF; (refine Lf18_8 rfl ⟨_, rfl, rfl, rfl, rfl⟩ ?_); intro n sum7 i8 hF; unfold f18_8b at hF)
    | exact Mf18_8 hF ⟨_, rfl, rfl, rfl, rfl⟩
    | (revert hF; (refine Cf18_c4 rfl rfl ?_ ?_); (intro hF); rotate_left; (intro e6 hF; unfold f18_c4 at hF); rotate_right)
    | exact Zf18_c4 hF ⟨_, rfl, rfl, rfl, rfl⟩
    | (revert hF; (with_reducible refine G21.step ?hx ?_); (case hx => exact rfl); intro v hF; conv => whnf)
    | (revert hF; (with_reducible refine G50.step ?hx ?_); (case hx => exact rfl); intro v hF; conv => whnf)
    | (revert hF; (with_reducible refine G51.step ?hx ?_); (case hx => exact rfl); intro v hF; conv => whnf)
    | with_reducible refine k_seq_ret ?_
    | with_reducible refine k_seq_exit ?_
    | with_reducible refine k_blk ?_
    | with_reducible refine k_blk_ret ?_
    | with_reducible refine k_blk_here ?_
    | ((with_reducible refine k_blk_out ?hx ?_); (case hx => exact rfl))
    | with_reducible refine k_loop_ret ?_
    | with_reducible refine k_loop_exit ?_
    | (revert hF; (with_reducible refine idx1 ?hn ?_); (case hn => first | exact rfl | exact (List.length_map _) | assumption | omega | simp); intro x hx hF; conv => whnf)
    | ((refine row_all ?hn ?_); (case hn => first | exact rfl | (simp; done) | (simp; omega)); conv => whnf)
    | ((with_reducible refine le_step ?hn ?_); (case hn => first | exact rfl | assumption | omega); conv => whnf)
    | ((refine ⟨?hx, ?_⟩); (case hx => exact ⟨rfl, Nat.le_of_ble_eq_true rfl, rfl⟩); conv => whnf)
    | ((with_reducible refine ex_step ?_); conv => whnf)
    | ((with_reducible refine both_T ?hx ?_); (case hx => first | exact rfl | assumption | exact notT (by assumption)); conv => whnf)
    | ((with_reducible refine both_F ?hx ?_); (case hx => first | exact rfl | assumption | exact notF (by assumption)); conv => whnf)
    | (revert hF; (with_reducible refine ite_step ?_ ?_) <;> (intro hc hF; conv => whnf))
    | ((with_reducible refine vc_condT ?hx ?_); (case hx => exact rfl))
    | ((with_reducible refine vc_condF ?hx ?_); (case hx => exact rfl))
    | (show retD _ _ _ _ _ _; conv => whnf)
    | ((refine ⟨?hx, trivial⟩); (case hx => (cases hF; exact rfl)))
    | ((refine ⟨?hx, ?_⟩); (case hx => decide); conv => whnf)
    | ((with_reducible refine k_seq ?_))
    | (have hF : (none : Option _) = some _ := hF; cases hF))
end
end Go.Vc
namespace Go.Vc
open Go.Proofs
set_option linter.unusedVariables false
set_option linter.unnecessarySimpa false
set_option linter.unusedSimpArgs false
section
variable {c : Ctx} {p nid : Nat} {a b : Code} {st : St} {K : Ex → St → Prop}
/- f19: tusche/tuschelaw06.listed -/
def f19_c6 (out3 : List Kind) : Option ((List Kind)) :=
 some (out3)
def Sf19_c6 : Ann := ⟨[3], [90003], [(.slot 3, 90003, 106, 3)], []⟩
def Vf19_c6 (out3 : List Kind) : List SV := [.rs 90003 (List.length out3)]
def Bf19_c6 (out3 : List Kind) : List Blk := [.row 106 3 (List.map Kind.d out3)]
def Yf19_c6 (y : (List Kind)) : List SV := Vf19_c6 y
def Xf19_c6 (y : (List Kind)) : List Blk := Bf19_c6 y
def Jf19_c6 (r : (List Kind)) (y : (List Kind)) : Prop := f19_c6 y = some r
def V2f19_c6 (out3 : List Kind) (m0 : Nat) : List SV := [.rs 90003 m0]
def B2f19_c6 (out3 : List Kind) (m0 : Nat) : List Blk := [.row 106 3 (List.map Kind.d out3)]
theorem Cf19_c6 {r : (List Kind)} {g : _ → Option ((List Kind))} (hn : Nat.beq (nid * 1000 + firstRegion b) 6 = true) (hz : Sf19_c6.ok p = true) (h : g f19_c6 = some r → vc c p nid a st (KHead Sf19_c6 Yf19_c6 Xf19_c6 (Jf19_c6 r) K)) (h2 : ∀ (out3 : List Kind), f19_c6 out3 = some r → vc c p nid b (St.mk' Sf19_c6 (Vf19_c6 out3) (Bf19_c6 out3)) K) (hF : joinK f19_c6 g = some r) : vc c p nid (.seq a b) st K :=
  vc_cut Sf19_c6 Yf19_c6 Xf19_c6 (Jf19_c6 r) hz (h hF) fun y hy => h2 y hy
theorem Zf19_c6 {r : (List Kind)} {out3 : List Kind} {m0 : Nat} (hF : f19_c6 out3 = some r) (h0 : AtH Sf19_c6 st (V2f19_c6 out3 m0) (B2f19_c6 out3 m0)) (em0 : m0 = List.length out3) : KHead Sf19_c6 Yf19_c6 Xf19_c6 (Jf19_c6 r) K .normal st := by
  subst em0; exact khead (I := (Jf19_c6 r)) (x := (out3)) hF h0
def f19_3b (r3 : (List Kind) → Int → Option ((List Kind))) (a0 : List Kind) (k0 : (List Kind) → Option ((List Kind))) (out3 : List Kind) (i4 : Int) : Option ((List Kind)) :=
 bif decide (i4 < (List.length a0 : Int)) then ((ix a0 i4).bind fun x1 =>
 (app 24 out3 [x1]).bind fun x2 =>
 r3 x2 (W (i4 + (1 : Int))))
 else (k0 out3)
def f19_3 (a0 : List Kind) (k0 : (List Kind) → Option ((List Kind))) : Nat → (List Kind) → Int → Option ((List Kind))
  | 0, _, _ => none
  | n + 1, out3, i4 => f19_3b (f19_3 a0 k0 n) a0 k0 out3 i4
def Sf19_3 : Ann := ⟨[0, 3, 4], [90003], [(.slot 3, 90003, 106, 3)], []⟩
def Vf19_3 (a0 : List Kind) (out3 : List Kind) (i4 : Int) : List SV := [.dat (sl_Kind a0), .rs 90003 (List.length out3), .dat (iN i4)]
def Bf19_3 (a0 : List Kind) (out3 : List Kind) (i4 : Int) : List Blk := [.row 106 3 (List.map Kind.d out3)]
def Yf19_3 (a0 : List Kind) (y : Nat × (List Kind) × Int) : List SV := Vf19_3 a0 y.2.1 y.2.2
def Xf19_3 (a0 : List Kind) (y : Nat × (List Kind) × Int) : List Blk := Bf19_3 a0 y.2.1 y.2.2
def Jf19_3 (a0 : List Kind) (k0 : (List Kind) → Option ((List Kind))) (r : (List Kind)) (y : Nat × (List Kind) × Int) : Prop := f19_3 a0 k0 y.1 y.2.1 y.2.2 = some r
def V2f19_3 (a0 : List Kind) (out3 : List Kind) (i4 : Int) (m0 : Nat) : List SV := [.dat (sl_Kind a0), .rs 90003 m0, .dat (iN i4)]
def B2f19_3 (a0 : List Kind) (out3 : List Kind) (i4 : Int) (m0 : Nat) : List Blk := [.row 106 3 (List.map Kind.d out3)]
theorem Lf19_3 {r : (List Kind)} {a0 : List Kind} {k0 : (List Kind) → Option ((List Kind))} {fu : Nat} {out3 : List Kind} {i4 : Int} {m0 : Nat} (hz : Sf19_3.ok p = true) (h0 : AtH Sf19_3 st (V2f19_3 a0 out3 i4 m0) (B2f19_3 a0 out3 i4 m0)) (em0 : m0 = List.length out3) (h : ∀ (n : Nat) (out3 : List Kind) (i4 : Int), f19_3b (f19_3 a0 k0 n) a0 k0 out3 i4 = some r → vc c p nid a (St.mk' Sf19_3 (Vf19_3 a0 out3 i4) (Bf19_3 a0 out3 i4)) (Kloop Sf19_3 (Yf19_3 a0) (Xf19_3 a0) (Jf19_3 a0 k0 r) Prod.fst (n + 1, out3, i4) K)) (hF : f19_3 a0 k0 fu out3 i4 = some r) : vc c p nid (.loop a) st K := by
  subst em0; refine vc_loop Sf19_3 (Yf19_3 a0) (Xf19_3 a0) (Jf19_3 a0 k0 r) Prod.fst hz (kheadL (x := (fu, out3, i4)) hF h0) ?_
  rintro ⟨_ | n, out3, i4⟩ hI
  · cases hI
  · exact h n out3 i4 hI
theorem Mf19_3 {r : (List Kind)} {a0 : List Kind} {k0 : (List Kind) → Option ((List Kind))} {n : Nat} {out3 : List Kind} {i4 : Int} {out3_ : List Kind} {i4_ : Int} {m0 : Nat} (hF : f19_3 a0 k0 n out3 i4 = some r) (h0 : AtH Sf19_3 st (V2f19_3 a0 out3 i4 m0) (B2f19_3 a0 out3 i4 m0)) (em0 : m0 = List.length out3) : Kloop Sf19_3 (Yf19_3 a0) (Xf19_3 a0) (Jf19_3 a0 k0 r) Prod.fst (n + 1, out3_, i4_) K .normal st := by
  subst em0; exact kback (y := (n, out3, i4)) hF (Nat.lt_succ_self n) h0
def f19 (N : Nat) (a0 : List Kind) : Option ((List Kind)) :=
 joinK f19_c6 fun k0 =>
 f19_3 a0 k0 N [] (0 : Int)
def G19 (ds : List D) (d : D) : Prop := ∃ (N : Nat) (a0 : List Kind) (r : (List Kind)), ds = [sl_Kind a0] ∧ f19 N a0 = some r ∧ d = sl_Kind r
theorem G19.step {N : Nat} {a0 : List Kind} {ρ : Type} {A : (List Kind) → Option ρ} {q : ρ} {ds : List D} {K : D → Prop} (hd : ds = [sl_Kind a0]) (h : ∀ r, A r = some q → K (sl_Kind r)) (hF : (f19 N a0).bind A = some q) : ∃ d, G19 ds d ∧ K d := by
  obtain ⟨r, hr, hA⟩ := bind_some hF
  exact ⟨_, ⟨N, a0, r, hd, hr, rfl⟩, h r hA⟩
set_option maxRecDepth 20000 in
set_option maxHeartbeats 4000000 in
theorem P19 : PureOK Try.prog 19 G19 := by
  refine pure_of_vc (c := mkCtx tyTree []) rfl tyOK (ctx_nil) [[3]] 1 Try.func19 rfl rfl (by decide) (by kernel_rfl) ?_
  rintro ds d ⟨N, a0, r, rfl, hF, rfl⟩ hok
  clear hok
  refine ⟨rfl, ?_⟩
  show vc _ _ _ _ ⟨[(0, .dat (sl_Kind a0))], []⟩ _
  unfold f19 at hF
  repeat' (first
    | ((with_reducible refine q0 _ _ ?_); clear Q q0 q1 q2)
    | ((with_reducible refine q1 _ _ _ _ ?_); clear Q q0 q1 q2)
    | ((with_reducible refine q2 _ _ _ ?_); clear Q q0 q1 q2)
    | ((with_reducible refine seq_op ?hx (fun Q q0 q1 q2 => ?_)); (case hx => exact rfl); conv => whnf)
    | ((with_reducible refine cond_id ?_); (first | ((refine condKT rfl ?hy ?_); (case hy => first | assumption | exact notT (by assumption) | exact rfl)) | ((refine condKF rfl ?hy ?_); (case hy => first | assumption | exact notF (by assumption) | exact rfl)) | (revert hF; (with_reducible refine condF ?hx ?_ ?_); (case hx => exact rfl); all_goals (intro hc hF))))
    | ((with_reducible refine seq_nil ?_); (first | ((with_reducible refine hR _ ?_); clear R hR) | ((with_reducible refine hL _ ?_); clear L hL)))
    | ((with_reducible refine int_step ?_); conv => whnf)
    | ((with_reducible refine len_step ?_); conv => whnf)
    | ((with_reducible refine idx2 (by assumption) ?_); conv => whnf)
    | ((with_reducible refine idx3 (by assumption) ?_); conv => whnf)
    | with_reducible refine vc_block ?_
    | with_reducible refine vc_skip ?_
    | with_reducible refine vc_ret ?_
    | with_reducible refine vc_exit ?_
    | ((with_reducible refine vc_seqN [6] ?hx ?_); (case hx => exact rfl))
    | (with_reducible refine vc_region (fun R hR => ?_))
    | fail
    | (revert hF; (refine Cf19_c6 rfl rfl ?_ ?_); (intro hF); rotate_left; (intro out3 hF; unfold f19_c6 at hF); rotate_right)
    | exact Zf19_c6 hF ⟨_, rfl, rfl, rfl, rfl⟩ (by first | exact rfl | assumption | omega)
    | (revert hF; (refine Lf19_3 rfl ⟨_, rfl, rfl, rfl, rfl⟩ (by first | exact rfl | assumption | omega) ?_); intro n out3 i4 hF; unfold f19_3b at hF)
    | exact Mf19_3 hF ⟨_, rfl, rfl, rfl, rfl⟩ (by first | exact rfl | assumption | omega)
    | with_reducible refine k_seq_ret ?_
    | with_reducible refine k_seq_exit ?_
    | with_reducible refine k_blk ?_
    | with_reducible refine k_blk_ret ?_
    | with_reducible refine k_blk_here ?_
    | ((with_reducible refine k_blk_out ?hx ?_); (case hx => exact rfl))
    | with_reducible refine k_loop_ret ?_
    | with_reducible refine k_loop_exit ?_
    | (revert hF; (with_reducible refine idx1 ?hn ?_); (case hn => first | exact rfl | exact (List.length_map _) | assumption | omega | simp); intro x hx hF; conv => whnf)
    | ((with_reducible have hG := app_fact hF); clear hF; (first | ((refine app_row hG ?hn ?hs (fun q hF => ?_)); (case hn => first | exact rfl | assumption | omega); (case hs => exact rfl)) | ((refine app_nil (d := Kind.d) hG ?hs (fun q hF => ?_)); (case hs => exact rfl)) | ((refine app_gen (d := Kind.d) hG ?ho ?hn ?hs (fun q hF => ?_)); (case ho => exact rfl); (case hn => exact rfl); (case hs => exact rfl))); clear hG; conv => whnf)
    | ((refine row_all ?hn ?_); (case hn => first | exact rfl | (simp; done) | (simp; omega)); conv => whnf)
    | ((with_reducible refine le_step ?hn ?_); (case hn => first | exact rfl | assumption | omega); conv => whnf)
    | ((refine ⟨?hx, ?_⟩); (case hx => exact ⟨rfl, Nat.le_of_ble_eq_true rfl, rfl⟩); conv => whnf)
    | ((with_reducible refine ex_step ?_); conv => whnf)
    | ((with_reducible refine both_T ?hx ?_); (case hx => first | exact rfl | assumption | exact notT (by assumption)); conv => whnf)
    | ((with_reducible refine both_F ?hx ?_); (case hx => first | exact rfl | assumption | exact notF (by assumption)); conv => whnf)
    | (revert hF; (with_reducible refine ite_step ?_ ?_) <;> (intro hc hF; conv => whnf))
    | ((with_reducible refine vc_condT ?hx ?_); (case hx => exact rfl))
    | ((with_reducible refine vc_condF ?hx ?_); (case hx => exact rfl))
    | (show retD _ _ _ _ _ _; conv => whnf)
    | ((refine ⟨?hx, trivial⟩); (case hx => (cases hF; exact rfl)))
    | ((refine ⟨?hx, ?_⟩); (case hx => decide); conv => whnf)
    | ((with_reducible refine k_seq ?_))
    | (have hF : (none : Option _) = some _ := hF; cases hF))
end
end Go.Vc
namespace Go.Vc
open Go.Proofs
set_option linter.unusedVariables false
set_option linter.unnecessarySimpa false
set_option linter.unusedSimpArgs false
section
variable {c : Ctx} {p nid : Nat} {a b : Code} {st : St} {K : Ex → St → Prop}
/- f47: tusche/tuscheref06.sheet -/
def f47 (N : Nat) (a0 : Layout) : Option (Label) :=
 some ((Label.mk (0 : Int) (0 : Int) a0.W a0.H))
def G47 (ds : List D) (d : D) : Prop := ∃ (N : Nat) (a0 : Layout) (r : Label), ds = [Layout.d a0] ∧ f47 N a0 = some r ∧ d = Label.d r
theorem G47.step {N : Nat} {a0 : Layout} {ρ : Type} {A : Label → Option ρ} {q : ρ} {ds : List D} {K : D → Prop} (hd : ds = [Layout.d a0]) (h : ∀ r, A r = some q → K (Label.d r)) (hF : (f47 N a0).bind A = some q) : ∃ d, G47 ds d ∧ K d := by
  obtain ⟨r, hr, hA⟩ := bind_some hF
  exact ⟨_, ⟨N, a0, r, hd, hr, rfl⟩, h r hA⟩
set_option maxRecDepth 20000 in
set_option maxHeartbeats 4000000 in
theorem P47 : PureOK Try.prog 47 G47 := by
  refine pure_of_vc (c := mkCtx tyTree []) rfl tyOK (ctx_nil) [[0, 0, 0, 0]] 1 Try.func47 rfl rfl (by decide) (by kernel_rfl) ?_
  rintro ds d ⟨N, a0, r, rfl, hF, rfl⟩ hok
  clear hok
  refine ⟨rfl, ?_⟩
  show vc _ _ _ _ ⟨[(0, .dat (Layout.d a0))], []⟩ _
  unfold f47 at hF
  repeat' (first
    | ((with_reducible refine q0 _ _ ?_); clear Q q0 q1 q2)
    | ((with_reducible refine q1 _ _ _ _ ?_); clear Q q0 q1 q2)
    | ((with_reducible refine q2 _ _ _ ?_); clear Q q0 q1 q2)
    | ((with_reducible refine seq_op ?hx (fun Q q0 q1 q2 => ?_)); (case hx => exact rfl); conv => whnf)
    | ((with_reducible refine seq_op0 ?hx (fun Q q0 q1 q2 => ?_)); (case hx => exact rfl); conv => whnf)
    | ((with_reducible refine seq_nil ?_); (first | ((with_reducible refine hR _ ?_); clear R hR) | ((with_reducible refine hL _ ?_); clear L hL)))
    | ((with_reducible refine int_step ?_); conv => whnf)
    | with_reducible refine vc_skip ?_
    | with_reducible refine vc_ret ?_
    | ((with_reducible refine vc_seqN [] ?hx ?_); (case hx => exact rfl))
    | (with_reducible refine vc_region (fun R hR => ?_))
    | fail
    | with_reducible refine k_seq_ret ?_
    | ((refine row_all ?hn ?_); (case hn => first | exact rfl | (simp; done) | (simp; omega)); conv => whnf)
    | ((with_reducible refine le_step ?hn ?_); (case hn => first | exact rfl | assumption | omega); conv => whnf)
    | ((refine ⟨?hx, ?_⟩); (case hx => exact ⟨rfl, Nat.le_of_ble_eq_true rfl, rfl⟩); conv => whnf)
    | ((with_reducible refine ex_step ?_); conv => whnf)
    | ((with_reducible refine both_T ?hx ?_); (case hx => first | exact rfl | assumption | exact notT (by assumption)); conv => whnf)
    | ((with_reducible refine both_F ?hx ?_); (case hx => first | exact rfl | assumption | exact notF (by assumption)); conv => whnf)
    | (revert hF; (with_reducible refine ite_step ?_ ?_) <;> (intro hc hF; conv => whnf))
    | (show retD _ _ _ _ _ _; conv => whnf)
    | ((refine ⟨?hx, trivial⟩); (case hx => (cases hF; exact rfl)))
    | ((refine ⟨?hx, ?_⟩); (case hx => decide); conv => whnf)
    | ((with_reducible refine k_seq ?_))
    | (have hF : (none : Option _) = some _ := hF; cases hF))
end
end Go.Vc
namespace Go.Vc
open Go.Proofs
set_option linter.unusedVariables false
set_option linter.unnecessarySimpa false
set_option linter.unusedSimpArgs false
section
variable {c : Ctx} {p nid : Nat} {a b : Code} {st : St} {K : Ex → St → Prop}
/- f62: tusche/tuscheref06.inside -/
def f62_c7 (v5 : List Label) : Option ((List Label)) :=
 some (v5)
def Sf62_c7 : Ann := ⟨[5], [90005], [(.slot 5, 90005, 57, 4)], []⟩
def Vf62_c7 (v5 : List Label) : List SV := [.rs 90005 (List.length v5)]
def Bf62_c7 (v5 : List Label) : List Blk := [.row 57 4 (List.map Label.d v5)]
def Yf62_c7 (y : (List Label)) : List SV := Vf62_c7 y
def Xf62_c7 (y : (List Label)) : List Blk := Bf62_c7 y
def Jf62_c7 (r : (List Label)) (y : (List Label)) : Prop := f62_c7 y = some r
def V2f62_c7 (v5 : List Label) (m0 : Nat) : List SV := [.rs 90005 m0]
def B2f62_c7 (v5 : List Label) (m0 : Nat) : List Blk := [.row 57 4 (List.map Label.d v5)]
theorem Cf62_c7 {r : (List Label)} {g : _ → Option ((List Label))} (hn : Nat.beq (nid * 1000 + firstRegion b) 7 = true) (hz : Sf62_c7.ok p = true) (h : g f62_c7 = some r → vc c p nid a st (KHead Sf62_c7 Yf62_c7 Xf62_c7 (Jf62_c7 r) K)) (h2 : ∀ (v5 : List Label), f62_c7 v5 = some r → vc c p nid b (St.mk' Sf62_c7 (Vf62_c7 v5) (Bf62_c7 v5)) K) (hF : joinK f62_c7 g = some r) : vc c p nid (.seq a b) st K :=
  vc_cut Sf62_c7 Yf62_c7 Xf62_c7 (Jf62_c7 r) hz (h hF) fun y hy => h2 y hy
theorem Zf62_c7 {r : (List Label)} {v5 : List Label} {m0 : Nat} (hF : f62_c7 v5 = some r) (h0 : AtH Sf62_c7 st (V2f62_c7 v5 m0) (B2f62_c7 v5 m0)) (em0 : m0 = List.length v5) : KHead Sf62_c7 Yf62_c7 Xf62_c7 (Jf62_c7 r) K .normal st := by
  subst em0; exact khead (I := (Jf62_c7 r)) (x := (v5)) hF h0
def f62_3b (r3 : (List Label) → Int → Option ((List Label))) (a0 : List Label) (a1 : Label) (k0 : (List Label) → Option ((List Label))) (v5 : List Label) (v6 : Int) : Option ((List Label)) :=
 bif decide (v6 < (List.length a0 : Int)) then ((ix a0 v6).bind fun x1 =>
 bif decide (a1.X ≤ x1.X) then ((ix a0 v6).bind fun x2 =>
 bif decide (a1.Y ≤ x2.Y) then ((ix a0 v6).bind fun x3 =>
 (ix a0 v6).bind fun x4 =>
 bif decide ((W (x3.X + x4.W)) ≤ (W (a1.X + a1.W))) then ((ix a0 v6).bind fun x5 =>
 (ix a0 v6).bind fun x6 =>
 bif decide ((W (x5.Y + x6.H)) ≤ (W (a1.Y + a1.H))) then ((ix a0 v6).bind fun x7 =>
 (app 32 v5 [x7]).bind fun x8 =>
 r3 x8 (W (v6 + (1 : Int))))
 else (r3 v5 (W (v6 + (1 : Int)))))
 else (r3 v5 (W (v6 + (1 : Int)))))
 else (r3 v5 (W (v6 + (1 : Int)))))
 else (r3 v5 (W (v6 + (1 : Int)))))
 else (k0 v5)
def f62_3 (a0 : List Label) (a1 : Label) (k0 : (List Label) → Option ((List Label))) : Nat → (List Label) → Int → Option ((List Label))
  | 0, _, _ => none
  | n + 1, v5, v6 => f62_3b (f62_3 a0 a1 k0 n) a0 a1 k0 v5 v6
def Sf62_3 : Ann := ⟨[0, 3, 5, 6], [0, 90005], [(.slot 5, 90005, 57, 4)], []⟩
def Vf62_3 (a0 : List Label) (a1 : Label) (v5 : List Label) (v6 : Int) : List SV := [.dat (sl_Label a0), .ptr 0 0, .rs 90005 (List.length v5), .dat (iN v6)]
def Bf62_3 (a0 : List Label) (a1 : Label) (v5 : List Label) (v6 : Int) : List Blk := [.box [.dat (iN a1.X), .dat (iN a1.Y), .dat (iN a1.W), .dat (iN a1.H)], .row 57 4 (List.map Label.d v5)]
def Yf62_3 (a0 : List Label) (a1 : Label) (y : Nat × (List Label) × Int) : List SV := Vf62_3 a0 a1 y.2.1 y.2.2
def Xf62_3 (a0 : List Label) (a1 : Label) (y : Nat × (List Label) × Int) : List Blk := Bf62_3 a0 a1 y.2.1 y.2.2
def Jf62_3 (a0 : List Label) (a1 : Label) (k0 : (List Label) → Option ((List Label))) (r : (List Label)) (y : Nat × (List Label) × Int) : Prop := f62_3 a0 a1 k0 y.1 y.2.1 y.2.2 = some r
def V2f62_3 (a0 : List Label) (a1 : Label) (v5 : List Label) (v6 : Int) (m0 : Nat) : List SV := [.dat (sl_Label a0), .ptr 0 0, .rs 90005 m0, .dat (iN v6)]
def B2f62_3 (a0 : List Label) (a1 : Label) (v5 : List Label) (v6 : Int) (m0 : Nat) : List Blk := [.box [.dat (iN a1.X), .dat (iN a1.Y), .dat (iN a1.W), .dat (iN a1.H)], .row 57 4 (List.map Label.d v5)]
theorem Lf62_3 {r : (List Label)} {a0 : List Label} {a1 : Label} {k0 : (List Label) → Option ((List Label))} {fu : Nat} {v5 : List Label} {v6 : Int} {m0 : Nat} (hz : Sf62_3.ok p = true) (h0 : AtH Sf62_3 st (V2f62_3 a0 a1 v5 v6 m0) (B2f62_3 a0 a1 v5 v6 m0)) (em0 : m0 = List.length v5) (h : ∀ (n : Nat) (v5 : List Label) (v6 : Int), f62_3b (f62_3 a0 a1 k0 n) a0 a1 k0 v5 v6 = some r → vc c p nid a (St.mk' Sf62_3 (Vf62_3 a0 a1 v5 v6) (Bf62_3 a0 a1 v5 v6)) (Kloop Sf62_3 (Yf62_3 a0 a1) (Xf62_3 a0 a1) (Jf62_3 a0 a1 k0 r) Prod.fst (n + 1, v5, v6) K)) (hF : f62_3 a0 a1 k0 fu v5 v6 = some r) : vc c p nid (.loop a) st K := by
  subst em0; refine vc_loop Sf62_3 (Yf62_3 a0 a1) (Xf62_3 a0 a1) (Jf62_3 a0 a1 k0 r) Prod.fst hz (kheadL (x := (fu, v5, v6)) hF h0) ?_
  rintro ⟨_ | n, v5, v6⟩ hI
  · cases hI
  · exact h n v5 v6 hI
theorem Mf62_3 {r : (List Label)} {a0 : List Label} {a1 : Label} {k0 : (List Label) → Option ((List Label))} {n : Nat} {v5 : List Label} {v6 : Int} {v5_ : List Label} {v6_ : Int} {m0 : Nat} (hF : f62_3 a0 a1 k0 n v5 v6 = some r) (h0 : AtH Sf62_3 st (V2f62_3 a0 a1 v5 v6 m0) (B2f62_3 a0 a1 v5 v6 m0)) (em0 : m0 = List.length v5) : Kloop Sf62_3 (Yf62_3 a0 a1) (Xf62_3 a0 a1) (Jf62_3 a0 a1 k0 r) Prod.fst (n + 1, v5_, v6_) K .normal st := by
  subst em0; exact kback (y := (n, v5, v6)) hF (Nat.lt_succ_self n) h0
def f62 (N : Nat) (a0 : List Label) (a1 : Label) : Option ((List Label)) :=
 joinK f62_c7 fun k0 =>
 f62_3 a0 a1 k0 N [] (0 : Int)
def G62 (ds : List D) (d : D) : Prop := ∃ (N : Nat) (a0 : List Label) (a1 : Label) (r : (List Label)), ds = [sl_Label a0, Label.d a1] ∧ f62 N a0 a1 = some r ∧ d = sl_Label r
theorem G62.step {N : Nat} {a0 : List Label} {a1 : Label} {ρ : Type} {A : (List Label) → Option ρ} {q : ρ} {ds : List D} {K : D → Prop} (hd : ds = [sl_Label a0, Label.d a1]) (h : ∀ r, A r = some q → K (sl_Label r)) (hF : (f62 N a0 a1).bind A = some q) : ∃ d, G62 ds d ∧ K d := by
  obtain ⟨r, hr, hA⟩ := bind_some hF
  exact ⟨_, ⟨N, a0, a1, r, hd, hr, rfl⟩, h r hA⟩
set_option maxRecDepth 20000 in
set_option maxHeartbeats 4000000 in
theorem P62 : PureOK Try.prog 62 G62 := by
  refine pure_of_vc (c := mkCtx tyTree []) rfl tyOK (ctx_nil) [[4]] 2 Try.func62 rfl rfl (by decide) (by kernel_rfl) ?_
  rintro ds d ⟨N, a0, a1, r, rfl, hF, rfl⟩ hok
  clear hok
  refine ⟨rfl, ?_⟩
  show vc _ _ _ _ ⟨[(0, .dat (sl_Label a0)), (1, .dat (Label.d a1))], []⟩ _
  unfold f62 at hF
  repeat' (first
    | ((with_reducible refine q0 _ _ ?_); clear Q q0 q1 q2)
    | ((with_reducible refine q1 _ _ _ _ ?_); clear Q q0 q1 q2)
    | ((with_reducible refine q2 _ _ _ ?_); clear Q q0 q1 q2)
    | ((with_reducible refine seq_op ?hx (fun Q q0 q1 q2 => ?_)); (case hx => exact rfl); conv => whnf)
    | ((with_reducible refine draw_op ?hx (fun Q q0 q1 q2 => ?_)); (case hx => exact rfl); conv => whnf)
    | ((with_reducible refine seq_off ?hx ?_); (case hx => exact rfl))
    | ((with_reducible refine seq_off0 ?hx ?_); (case hx => exact rfl))
    | ((with_reducible refine draw_off ?hx ?_); (case hx => exact rfl))
    | ((with_reducible refine draw_off0 ?hx ?_); (case hx => exact rfl))
    | ((with_reducible refine draw_id ?_); (first | ((refine draw_opK rfl ?hy (fun Q q0 q1 q2 => ?_)); (case hy => first | assumption | exact notT (by assumption) | exact rfl); conv => whnf) | ((refine draw_offK rfl ?hy ?_); (case hy => first | assumption | exact notF (by assumption) | exact rfl)) | ((refine draw_opK0 rfl ?hy (fun Q q0 q1 q2 => ?_)); (case hy => first | assumption | exact notT (by assumption) | exact rfl); conv => whnf) | ((refine draw_offK0 rfl ?hy ?_); (case hy => first | assumption | exact notF (by assumption) | exact rfl)) | (revert hF; (with_reducible refine draw_opF ?hx ?_ ?_); (case hx => exact rfl); (intro hc hF Q q0 q1 q2; conv => whnf); rotate_left; (intro hc hF); rotate_right) | (revert hF; (with_reducible refine draw_opN ?hx ?_ ?_); (case hx => exact rfl); (intro hc hF); rotate_left; (intro hc hF Q q0 q1 q2; conv => whnf); rotate_right) | (revert hF; (with_reducible refine draw_opF0 ?hx ?_ ?_); (case hx => exact rfl); (intro hc hF Q q0 q1 q2; conv => whnf); rotate_left; (intro hc hF); rotate_right) | (revert hF; (with_reducible refine draw_opN0 ?hx ?_ ?_); (case hx => exact rfl); (intro hc hF); rotate_left; (intro hc hF Q q0 q1 q2; conv => whnf); rotate_right)))
    | ((with_reducible refine cond_id ?_); (first | ((refine condKT rfl ?hy ?_); (case hy => first | assumption | exact notT (by assumption) | exact rfl)) | ((refine condKF rfl ?hy ?_); (case hy => first | assumption | exact notF (by assumption) | exact rfl)) | (revert hF; (with_reducible refine condF ?hx ?_ ?_); (case hx => exact rfl); all_goals (intro hc hF))))
    | ((with_reducible refine seq_nil ?_); (first | ((with_reducible refine hR _ ?_); clear R hR) | ((with_reducible refine hL _ ?_); clear L hL)))
    | ((with_reducible refine draw_nil ?_); (with_reducible refine hR _ _ ?hx ?_); (case hx => kernel_rfl); (first | clear R hR | clear hR))
    | ((with_reducible refine int_step ?_); conv => whnf)
    | ((with_reducible refine len_step ?_); conv => whnf)
    | ((with_reducible refine idx2 (by assumption) ?_); conv => whnf)
    | ((with_reducible refine idx3 (by assumption) ?_); conv => whnf)
    | with_reducible refine vc_block ?_
    | with_reducible refine vc_skip ?_
    | with_reducible refine vc_ret ?_
    | with_reducible refine vc_exit ?_
    | ((with_reducible refine vc_seqN [7] ?hx ?_); (case hx => exact rfl))
    | (with_reducible refine vc_region (fun R hR => ?_))
    | ((with_reducible refine vc_draw ?hx (fun R hR => ?_)); (case hx => exact rfl))
    | fail
    | (revert hF; (refine Cf62_c7 rfl rfl ?_ ?_); (intro hF); rotate_left; (intro v5 hF; unfold f62_c7 at hF); rotate_right)
    | exact Zf62_c7 hF ⟨_, rfl, rfl, rfl, rfl⟩ (by first | exact rfl | assumption | omega)
    | (revert hF; (refine Lf62_3 rfl ⟨_, rfl, rfl, rfl, rfl⟩ (by first | exact rfl | assumption | omega) ?_); intro n v5 v6 hF; unfold f62_3b at hF)
    | exact Mf62_3 hF ⟨_, rfl, rfl, rfl, rfl⟩ (by first | exact rfl | assumption | omega)
    | with_reducible refine k_seq_ret ?_
    | with_reducible refine k_seq_exit ?_
    | with_reducible refine k_blk ?_
    | with_reducible refine k_blk_ret ?_
    | with_reducible refine k_blk_here ?_
    | ((with_reducible refine k_blk_out ?hx ?_); (case hx => exact rfl))
    | with_reducible refine k_loop_ret ?_
    | with_reducible refine k_loop_exit ?_
    | (revert hF; (with_reducible refine idx1 ?hn ?_); (case hn => first | exact rfl | exact (List.length_map _) | assumption | omega | simp); intro x hx hF; conv => whnf)
    | ((with_reducible have hG := app_fact hF); clear hF; (first | ((refine app_row hG ?hn ?hs (fun q hF => ?_)); (case hn => first | exact rfl | assumption | omega); (case hs => exact rfl)) | ((refine app_nil (d := Label.d) hG ?hs (fun q hF => ?_)); (case hs => exact rfl)) | ((refine app_gen (d := Label.d) hG ?ho ?hn ?hs (fun q hF => ?_)); (case ho => exact rfl); (case hn => exact rfl); (case hs => exact rfl))); clear hG; conv => whnf)
    | ((refine row_all ?hn ?_); (case hn => first | exact rfl | (simp; done) | (simp; omega)); conv => whnf)
    | ((with_reducible refine le_step ?hn ?_); (case hn => first | exact rfl | assumption | omega); conv => whnf)
    | ((refine ⟨?hx, ?_⟩); (case hx => exact ⟨rfl, Nat.le_of_ble_eq_true rfl, rfl⟩); conv => whnf)
    | ((with_reducible refine ex_step ?_); conv => whnf)
    | ((with_reducible refine both_T ?hx ?_); (case hx => first | exact rfl | assumption | exact notT (by assumption)); conv => whnf)
    | ((with_reducible refine both_F ?hx ?_); (case hx => first | exact rfl | assumption | exact notF (by assumption)); conv => whnf)
    | (revert hF; (with_reducible refine ite_step ?_ ?_) <;> (intro hc hF; conv => whnf))
    | ((with_reducible refine vc_condT ?hx ?_); (case hx => exact rfl))
    | ((with_reducible refine vc_condF ?hx ?_); (case hx => exact rfl))
    | (show retD _ _ _ _ _ _; conv => whnf)
    | ((refine ⟨?hx, trivial⟩); (case hx => (cases hF; exact rfl)))
    | ((refine ⟨?hx, ?_⟩); (case hx => decide); conv => whnf)
    | ((with_reducible refine k_seq ?_))
    | (have hF : (none : Option _) = some _ := hF; cases hF))
end
end Go.Vc
namespace Go.Vc
open Go.Proofs
set_option linter.unusedVariables false
set_option linter.unnecessarySimpa false
set_option linter.unusedSimpArgs false
section
variable {c : Ctx} {p nid : Nat} {a b : Code} {st : St} {K : Ex → St → Prop}
/- f64: tusche/tuscheref06.halves -/
def f64 (N : Nat) (a0 : Label) (a1 : Cut) : Option (Label × Label × Bool) :=
 bif a1.Up then ((f56 N a1.At (W (a0.X + (1 : Int))) (W ((W (a0.X + a0.W)) - (1 : Int)))).bind fun x1 =>
 some ((Label.mk a0.X a0.Y (W (a1.At - a0.X)) a0.H), (Label.mk a1.At a0.Y (W ((W (a0.X + a0.W)) - a1.At)) a0.H), x1))
 else ((f56 N a1.At (W (a0.Y + (1 : Int))) (W ((W (a0.Y + a0.H)) - (1 : Int)))).bind fun x2 =>
 some ((Label.mk a0.X a0.Y a0.W (W (a1.At - a0.Y))), (Label.mk a0.X a1.At a0.W (W ((W (a0.Y + a0.H)) - a1.At))), x2))
def G64 (ds : List D) (d : D) : Prop := ∃ (N : Nat) (a0 : Label) (a1 : Cut) (r : Label × Label × Bool), ds = [Label.d a0, Cut.d a1] ∧ f64 N a0 a1 = some r ∧ d = .tup [Label.d r.1, Label.d r.2.1, bN r.2.2]
theorem G64.step {N : Nat} {a0 : Label} {a1 : Cut} {ρ : Type} {A : (Label × Label × Bool) → Option ρ} {q : ρ} {ds : List D} {K : D → Prop} (hd : ds = [Label.d a0, Cut.d a1]) (h : ∀ r, A r = some q → K (.tup [Label.d r.1, Label.d r.2.1, bN r.2.2])) (hF : (f64 N a0 a1).bind A = some q) : ∃ d, G64 ds d ∧ K d := by
  obtain ⟨r, hr, hA⟩ := bind_some hF
  exact ⟨_, ⟨N, a0, a1, r, hd, hr, rfl⟩, h r hA⟩
set_option maxRecDepth 20000 in
set_option maxHeartbeats 4000000 in
theorem P64 : PureOK Try.prog 64 G64 := by
  refine pure_of_vc (c := mkCtx tyTree [(56, true, purePg [[0], [0], [0]] G56)]) rfl tyOK (ctx_cons (callable Try.func56 rfl rfl) P56 (ctx_nil)) [[0, 0, 0, 0], [0, 0, 0, 0], [0]] 2 Try.func64 rfl rfl (by decide) (by kernel_rfl) ?_
  rintro ds d ⟨N, a0, a1, r, rfl, hF, rfl⟩ hok
  clear hok
  refine ⟨rfl, ?_⟩
  show vc _ _ _ _ ⟨[(0, .dat (Label.d a0)), (1, .dat (Cut.d a1))], []⟩ _
  unfold f64 at hF
  repeat' (first
    | ((with_reducible refine q0 _ _ ?_); clear Q q0 q1 q2)
    | ((with_reducible refine q1 _ _ _ _ ?_); clear Q q0 q1 q2)
    | ((with_reducible refine q2 _ _ _ ?_); clear Q q0 q1 q2)
    | ((with_reducible refine seq_op ?hx (fun Q q0 q1 q2 => ?_)); (case hx => exact rfl); conv => whnf)
    | ((with_reducible refine draw_op ?hx (fun Q q0 q1 q2 => ?_)); (case hx => exact rfl); conv => whnf)
    | ((with_reducible refine seq_op0 ?hx (fun Q q0 q1 q2 => ?_)); (case hx => exact rfl); conv => whnf)
    | ((with_reducible refine draw_op0 ?hx (fun Q q0 q1 q2 => ?_)); (case hx => exact rfl); conv => whnf)
    | ((with_reducible refine cond_id ?_); (first | ((refine condKT rfl ?hy ?_); (case hy => first | assumption | exact notT (by assumption) | exact rfl)) | ((refine condKF rfl ?hy ?_); (case hy => first | assumption | exact notF (by assumption) | exact rfl)) | (revert hF; (with_reducible refine condF ?hx ?_ ?_); (case hx => exact rfl); all_goals (intro hc hF))))
    | ((with_reducible refine seq_nil ?_); (first | ((with_reducible refine hR _ ?_); clear R hR) | ((with_reducible refine hL _ ?_); clear L hL)))
    | ((with_reducible refine draw_nil ?_); (with_reducible refine hR _ _ ?hx ?_); (case hx => kernel_rfl); (first | clear R hR | clear hR))
    | ((with_reducible refine int_step ?_); conv => whnf)
    | with_reducible refine vc_block ?_
    | with_reducible refine vc_skip ?_
    | with_reducible refine vc_ret ?_
    | with_reducible refine vc_exit ?_
    | ((with_reducible refine vc_seqN [] ?hx ?_); (case hx => exact rfl))
    | (with_reducible refine vc_region (fun R hR => ?_))
    | ((with_reducible refine vc_draw ?hx (fun R hR => ?_)); (case hx => exact rfl))
    | fail
    | (revert hF; (with_reducible refine G56.step ?hx ?_); (case hx => exact rfl); intro v hF; conv => whnf)
    | with_reducible refine k_seq_ret ?_
    | with_reducible refine k_seq_exit ?_
    | with_reducible refine k_blk ?_
    | with_reducible refine k_blk_ret ?_
    | with_reducible refine k_blk_here ?_
    | ((with_reducible refine k_blk_out ?hx ?_); (case hx => exact rfl))
    | ((refine row_all ?hn ?_); (case hn => first | exact rfl | (simp; done) | (simp; omega)); conv => whnf)
    | ((with_reducible refine le_step ?hn ?_); (case hn => first | exact rfl | assumption | omega); conv => whnf)
    | ((refine ⟨?hx, ?_⟩); (case hx => exact ⟨rfl, Nat.le_of_ble_eq_true rfl, rfl⟩); conv => whnf)
    | ((with_reducible refine ex_step ?_); conv => whnf)
    | ((with_reducible refine both_T ?hx ?_); (case hx => first | exact rfl | assumption | exact notT (by assumption)); conv => whnf)
    | ((with_reducible refine both_F ?hx ?_); (case hx => first | exact rfl | assumption | exact notF (by assumption)); conv => whnf)
    | (revert hF; (with_reducible refine ite_step ?_ ?_) <;> (intro hc hF; conv => whnf))
    | ((with_reducible refine vc_condT ?hx ?_); (case hx => exact rfl))
    | ((with_reducible refine vc_condF ?hx ?_); (case hx => exact rfl))
    | (show retD _ _ _ _ _ _; conv => whnf)
    | ((refine ⟨?hx, trivial⟩); (case hx => (cases hF; exact rfl)))
    | ((refine ⟨?hx, ?_⟩); (case hx => decide); conv => whnf)
    | ((with_reducible refine k_seq ?_))
    | (have hF : (none : Option _) = some _ := hF; cases hF))
end
end Go.Vc
namespace Go.Vc
open Go.Proofs
set_option linter.unusedVariables false
set_option linter.unnecessarySimpa false
set_option linter.unusedSimpArgs false
section
variable {c : Ctx} {p nid : Nat} {a b : Code} {st : St} {K : Ex → St → Prop}
/- f63: tusche/tuscheref06.good -/
def f63 (N : Nat) (a0 : List Label) (a1 : Label) (a2 : Cut) : Option (Bool) :=
 (f64 N a1 a2).bind fun x1 =>
 bif !x1.2.2 then (some (false))
 else ((f62 N a0 x1.1).bind fun x2 =>
 (f62 N a0 x1.2.1).bind fun x3 =>
 bif decide ((0 : Int) < (List.length x2 : Int)) then (bif decide ((0 : Int) < (List.length x3 : Int)) then (some (decide ((W ((List.length x2 : Int) + (List.length x3 : Int))) = (List.length a0 : Int))))
 else (some (false)))
 else (some (false)))
def G63 (ds : List D) (d : D) : Prop := ∃ (N : Nat) (a0 : List Label) (a1 : Label) (a2 : Cut) (r : Bool), ds = [sl_Label a0, Label.d a1, Cut.d a2] ∧ f63 N a0 a1 a2 = some r ∧ d = bN r
theorem G63.step {N : Nat} {a0 : List Label} {a1 : Label} {a2 : Cut} {ρ : Type} {A : Bool → Option ρ} {q : ρ} {ds : List D} {K : D → Prop} (hd : ds = [sl_Label a0, Label.d a1, Cut.d a2]) (h : ∀ r, A r = some q → K (bN r)) (hF : (f63 N a0 a1 a2).bind A = some q) : ∃ d, G63 ds d ∧ K d := by
  obtain ⟨r, hr, hA⟩ := bind_some hF
  exact ⟨_, ⟨N, a0, a1, a2, r, hd, hr, rfl⟩, h r hA⟩
set_option maxRecDepth 20000 in
set_option maxHeartbeats 4000000 in
theorem P63 : PureOK Try.prog 63 G63 := by
  refine pure_of_vc (c := mkCtx tyTree [(64, true, purePg [[0, 0, 0, 0], [0, 0]] G64), (62, true, purePg [[4], [0, 0, 0, 0]] G62)]) rfl tyOK (ctx_cons (callable Try.func64 rfl rfl) P64 (ctx_cons (callable Try.func62 rfl rfl) P62 (ctx_nil))) [[0]] 3 Try.func63 rfl rfl (by decide) (by kernel_rfl) ?_
  rintro ds d ⟨N, a0, a1, a2, r, rfl, hF, rfl⟩ hok
  clear hok
  refine ⟨rfl, ?_⟩
  show vc _ _ _ _ ⟨[(0, .dat (sl_Label a0)), (1, .dat (Label.d a1)), (2, .dat (Cut.d a2))], []⟩ _
  unfold f63 at hF
  repeat' (first
    | ((with_reducible refine q0 _ _ ?_); clear Q q0 q1 q2)
    | ((with_reducible refine q1 _ _ _ _ ?_); clear Q q0 q1 q2)
    | ((with_reducible refine q2 _ _ _ ?_); clear Q q0 q1 q2)
    | ((with_reducible refine seq_op ?hx (fun Q q0 q1 q2 => ?_)); (case hx => exact rfl); conv => whnf)
    | ((with_reducible refine draw_op ?hx (fun Q q0 q1 q2 => ?_)); (case hx => exact rfl); conv => whnf)
    | ((with_reducible refine seq_op0 ?hx (fun Q q0 q1 q2 => ?_)); (case hx => exact rfl); conv => whnf)
    | ((with_reducible refine draw_op0 ?hx (fun Q q0 q1 q2 => ?_)); (case hx => exact rfl); conv => whnf)
    | ((with_reducible refine seq_off ?hx ?_); (case hx => exact rfl))
    | ((with_reducible refine seq_off0 ?hx ?_); (case hx => exact rfl))
    | ((with_reducible refine draw_off ?hx ?_); (case hx => exact rfl))
    | ((with_reducible refine draw_off0 ?hx ?_); (case hx => exact rfl))
    | ((with_reducible refine seq_id ?_); (first | ((refine seq_opK rfl ?hy (fun Q q0 q1 q2 => ?_)); (case hy => first | assumption | exact notT (by assumption) | exact rfl); conv => whnf) | ((refine seq_offK rfl ?hy ?_); (case hy => first | assumption | exact notF (by assumption) | exact rfl)) | ((refine seq_opK0 rfl ?hy (fun Q q0 q1 q2 => ?_)); (case hy => first | assumption | exact notT (by assumption) | exact rfl); conv => whnf) | ((refine seq_offK0 rfl ?hy ?_); (case hy => first | assumption | exact notF (by assumption) | exact rfl)) | (revert hF; (with_reducible refine seq_opF ?hx ?_ ?_); (case hx => exact rfl); (intro hc hF Q q0 q1 q2; conv => whnf); rotate_left; (intro hc hF); rotate_right) | (revert hF; (with_reducible refine seq_opN ?hx ?_ ?_); (case hx => exact rfl); (intro hc hF); rotate_left; (intro hc hF Q q0 q1 q2; conv => whnf); rotate_right) | (revert hF; (with_reducible refine seq_opF0 ?hx ?_ ?_); (case hx => exact rfl); (intro hc hF Q q0 q1 q2; conv => whnf); rotate_left; (intro hc hF); rotate_right) | (revert hF; (with_reducible refine seq_opN0 ?hx ?_ ?_); (case hx => exact rfl); (intro hc hF); rotate_left; (intro hc hF Q q0 q1 q2; conv => whnf); rotate_right)))
    | ((with_reducible refine cond_id ?_); (first | ((refine condKT rfl ?hy ?_); (case hy => first | assumption | exact notT (by assumption) | exact rfl)) | ((refine condKF rfl ?hy ?_); (case hy => first | assumption | exact notF (by assumption) | exact rfl)) | (revert hF; (with_reducible refine condF ?hx ?_ ?_); (case hx => exact rfl); all_goals (intro hc hF))))
    | ((with_reducible refine seq_nil ?_); (first | ((with_reducible refine hR _ ?_); clear R hR) | ((with_reducible refine hL _ ?_); clear L hL)))
    | ((with_reducible refine draw_nil ?_); (with_reducible refine hR _ _ ?hx ?_); (case hx => kernel_rfl); (first | clear R hR | clear hR))
    | ((with_reducible refine int_step ?_); conv => whnf)
    | ((with_reducible refine len_step ?_); conv => whnf)
    | with_reducible refine vc_block ?_
    | with_reducible refine vc_skip ?_
    | with_reducible refine vc_ret ?_
    | with_reducible refine vc_exit ?_
    | ((with_reducible refine vc_seqN [] ?hx ?_); (case hx => exact rfl))
    | (with_reducible refine vc_region (fun R hR => ?_))
    | ((with_reducible refine vc_draw ?hx (fun R hR => ?_)); (case hx => exact rfl))
    | fail
    | (revert hF; (with_reducible refine G62.step ?hx ?_); (case hx => exact rfl); intro v hF; conv => whnf)
    | (revert hF; (with_reducible refine G64.step ?hx ?_); (case hx => exact rfl); intro v hF; conv => whnf)
    | with_reducible refine k_seq_ret ?_
    | with_reducible refine k_seq_exit ?_
    | with_reducible refine k_blk ?_
    | with_reducible refine k_blk_ret ?_
    | with_reducible refine k_blk_here ?_
    | ((with_reducible refine k_blk_out ?hx ?_); (case hx => exact rfl))
    | ((refine row_all ?hn ?_); (case hn => first | exact rfl | (simp; done) | (simp; omega)); conv => whnf)
    | ((with_reducible refine le_step ?hn ?_); (case hn => first | exact rfl | assumption | omega); conv => whnf)
    | ((refine ⟨?hx, ?_⟩); (case hx => exact ⟨rfl, Nat.le_of_ble_eq_true rfl, rfl⟩); conv => whnf)
    | ((with_reducible refine ex_step ?_); conv => whnf)
    | ((with_reducible refine both_T ?hx ?_); (case hx => first | exact rfl | assumption | exact notT (by assumption)); conv => whnf)
    | ((with_reducible refine both_F ?hx ?_); (case hx => first | exact rfl | assumption | exact notF (by assumption)); conv => whnf)
    | (revert hF; (with_reducible refine ite_step ?_ ?_) <;> (intro hc hF; conv => whnf))
    | ((with_reducible refine vc_condT ?hx ?_); (case hx => exact rfl))
    | ((with_reducible refine vc_condF ?hx ?_); (case hx => exact rfl))
    | (show retD _ _ _ _ _ _; conv => whnf)
    | ((refine ⟨?hx, trivial⟩); (case hx => (cases hF; exact rfl)))
    | ((refine ⟨?hx, ?_⟩); (case hx => decide); conv => whnf)
    | ((with_reducible refine k_seq ?_))
    | (have hF : (none : Option _) = some _ := hF; cases hF))
end
end Go.Vc
namespace Go.Vc
open Go.Proofs
set_option linter.unusedVariables false
set_option linter.unnecessarySimpa false
set_option linter.unusedSimpArgs false
section
variable {c : Ctx} {p nid : Nat} {a b : Code} {st : St} {K : Ex → St → Prop}
/- f46: tusche/tuscheref06.cuts -/
def f46_c12 (out5' : List Cut) : Option ((List Cut)) :=
 some (out5')
def Sf46_c12 : Ann := ⟨[5], [90005], [(.slot 5, 90005, 44, 2)], []⟩
def Vf46_c12 (out5' : List Cut) : List SV := [.rs 90005 (List.length (out5'))]
def Bf46_c12 (out5' : List Cut) : List Blk := [.row 44 2 (List.map Cut.d (out5'))]
def Yf46_c12 (y : (List Cut)) : List SV := Vf46_c12 y
def Xf46_c12 (y : (List Cut)) : List Blk := Bf46_c12 y
def Jf46_c12 (r : (List Cut)) (y : (List Cut)) : Prop := f46_c12 y = some r
def V2f46_c12 (out5' : List Cut) (m0 : Nat) : List SV := [.rs 90005 m0]
def B2f46_c12 (out5' : List Cut) (m0 : Nat) : List Blk := [.row 44 2 (List.map Cut.d (out5'))]
theorem Cf46_c12 {r : (List Cut)} {g : _ → Option ((List Cut))} (hn : Nat.beq (nid * 1000 + firstRegion b) 12 = true) (hz : Sf46_c12.ok p = true) (h : g f46_c12 = some r → vc c p nid a st (KHead Sf46_c12 Yf46_c12 Xf46_c12 (Jf46_c12 r) K)) (h2 : ∀ (out5' : List Cut), f46_c12 out5' = some r → vc c p nid b (St.mk' Sf46_c12 (Vf46_c12 out5') (Bf46_c12 out5')) K) (hF : joinK f46_c12 g = some r) : vc c p nid (.seq a b) st K :=
  vc_cut Sf46_c12 Yf46_c12 Xf46_c12 (Jf46_c12 r) hz (h hF) fun y hy => h2 y hy
theorem Zf46_c12 {r : (List Cut)} {out5' : List Cut} {m0 : Nat} (hF : f46_c12 out5' = some r) (h0 : AtH Sf46_c12 st (V2f46_c12 out5' m0) (B2f46_c12 out5' m0)) (em0 : m0 = List.length (out5')) : KHead Sf46_c12 Yf46_c12 Xf46_c12 (Jf46_c12 r) K .normal st := by
  subst em0; exact khead (I := (Jf46_c12 r)) (x := (out5')) hF h0
def f46_8b (r8 : (List Cut) → Int → Option ((List Cut))) (a0 : List Label) (a1 : Label) (N : Nat) (k0 : (List Cut) → Option ((List Cut))) (out5' : List Cut) (at7 : Int) : Option ((List Cut)) :=
 bif decide (at7 ≤ (12 : Int)) then ((f63 N a0 a1 (Cut.mk false at7)).bind fun x1 =>
 bif x1 then ((app 16 (out5') [(Cut.mk false at7)]).bind fun x2 =>
 r8 x2 (W (at7 + (1 : Int))))
 else (r8 (out5') (W (at7 + (1 : Int)))))
 else (k0 (out5'))
def f46_8 (a0 : List Label) (a1 : Label) (N : Nat) (k0 : (List Cut) → Option ((List Cut))) : Nat → (List Cut) → Int → Option ((List Cut))
  | 0, _, _ => none
  | n + 1, out5', at7 => f46_8b (f46_8 a0 a1 N k0 n) a0 a1 N k0 out5' at7
def Sf46_8 : Ann := ⟨[0, 3, 5, 7], [0, 90005], [(.slot 5, 90005, 44, 2)], []⟩
def Vf46_8 (a0 : List Label) (a1 : Label) (out5' : List Cut) (at7 : Int) : List SV := [.dat (sl_Label a0), .ptr 0 0, .rs 90005 (List.length (out5')), .dat (iN at7)]
def Bf46_8 (a0 : List Label) (a1 : Label) (out5' : List Cut) (at7 : Int) : List Blk := [.box [.dat (iN a1.X), .dat (iN a1.Y), .dat (iN a1.W), .dat (iN a1.H)], .row 44 2 (List.map Cut.d (out5'))]
def Yf46_8 (a0 : List Label) (a1 : Label) (y : Nat × (List Cut) × Int) : List SV := Vf46_8 a0 a1 y.2.1 y.2.2
def Xf46_8 (a0 : List Label) (a1 : Label) (y : Nat × (List Cut) × Int) : List Blk := Bf46_8 a0 a1 y.2.1 y.2.2
def Jf46_8 (a0 : List Label) (a1 : Label) (N : Nat) (k0 : (List Cut) → Option ((List Cut))) (r : (List Cut)) (y : Nat × (List Cut) × Int) : Prop := f46_8 a0 a1 N k0 y.1 y.2.1 y.2.2 = some r
def V2f46_8 (a0 : List Label) (a1 : Label) (out5' : List Cut) (at7 : Int) (m0 : Nat) : List SV := [.dat (sl_Label a0), .ptr 0 0, .rs 90005 m0, .dat (iN at7)]
def B2f46_8 (a0 : List Label) (a1 : Label) (out5' : List Cut) (at7 : Int) (m0 : Nat) : List Blk := [.box [.dat (iN a1.X), .dat (iN a1.Y), .dat (iN a1.W), .dat (iN a1.H)], .row 44 2 (List.map Cut.d (out5'))]
theorem Lf46_8 {r : (List Cut)} {a0 : List Label} {a1 : Label} {N : Nat} {k0 : (List Cut) → Option ((List Cut))} {fu : Nat} {out5' : List Cut} {at7 : Int} {m0 : Nat} (hz : Sf46_8.ok p = true) (h0 : AtH Sf46_8 st (V2f46_8 a0 a1 out5' at7 m0) (B2f46_8 a0 a1 out5' at7 m0)) (em0 : m0 = List.length (out5')) (h : ∀ (n : Nat) (out5' : List Cut) (at7 : Int), f46_8b (f46_8 a0 a1 N k0 n) a0 a1 N k0 out5' at7 = some r → vc c p nid a (St.mk' Sf46_8 (Vf46_8 a0 a1 out5' at7) (Bf46_8 a0 a1 out5' at7)) (Kloop Sf46_8 (Yf46_8 a0 a1) (Xf46_8 a0 a1) (Jf46_8 a0 a1 N k0 r) Prod.fst (n + 1, out5', at7) K)) (hF : f46_8 a0 a1 N k0 fu out5' at7 = some r) : vc c p nid (.loop a) st K := by
  subst em0; refine vc_loop Sf46_8 (Yf46_8 a0 a1) (Xf46_8 a0 a1) (Jf46_8 a0 a1 N k0 r) Prod.fst hz (kheadL (x := (fu, out5', at7)) hF h0) ?_
  rintro ⟨_ | n, out5', at7⟩ hI
  · cases hI
  · exact h n out5' at7 hI
theorem Mf46_8 {r : (List Cut)} {a0 : List Label} {a1 : Label} {N : Nat} {k0 : (List Cut) → Option ((List Cut))} {n : Nat} {out5' : List Cut} {at7 : Int} {out5'_ : List Cut} {at7_ : Int} {m0 : Nat} (hF : f46_8 a0 a1 N k0 n out5' at7 = some r) (h0 : AtH Sf46_8 st (V2f46_8 a0 a1 out5' at7 m0) (B2f46_8 a0 a1 out5' at7 m0)) (em0 : m0 = List.length (out5')) : Kloop Sf46_8 (Yf46_8 a0 a1) (Xf46_8 a0 a1) (Jf46_8 a0 a1 N k0 r) Prod.fst (n + 1, out5'_, at7_) K .normal st := by
  subst em0; exact kback (y := (n, out5', at7)) hF (Nat.lt_succ_self n) h0
def f46_c7 (a0 : List Label) (a1 : Label) (N : Nat) (out5 : List Cut) : Option ((List Cut)) :=
 joinK f46_c12 fun k0 =>
 f46_8 a0 a1 N k0 N out5 (0 : Int)
def Sf46_c7 : Ann := ⟨[0, 3, 5], [0, 90005], [(.slot 5, 90005, 44, 2)], []⟩
def Vf46_c7 (a0 : List Label) (a1 : Label) (out5 : List Cut) : List SV := [.dat (sl_Label a0), .ptr 0 0, .rs 90005 (List.length out5)]
def Bf46_c7 (a0 : List Label) (a1 : Label) (out5 : List Cut) : List Blk := [.box [.dat (iN a1.X), .dat (iN a1.Y), .dat (iN a1.W), .dat (iN a1.H)], .row 44 2 (List.map Cut.d out5)]
def Yf46_c7 (a0 : List Label) (a1 : Label) (y : (List Cut)) : List SV := Vf46_c7 a0 a1 y
def Xf46_c7 (a0 : List Label) (a1 : Label) (y : (List Cut)) : List Blk := Bf46_c7 a0 a1 y
def Jf46_c7 (a0 : List Label) (a1 : Label) (N : Nat) (r : (List Cut)) (y : (List Cut)) : Prop := f46_c7 a0 a1 N y = some r
def V2f46_c7 (a0 : List Label) (a1 : Label) (out5 : List Cut) (m0 : Nat) : List SV := [.dat (sl_Label a0), .ptr 0 0, .rs 90005 m0]
def B2f46_c7 (a0 : List Label) (a1 : Label) (out5 : List Cut) (m0 : Nat) : List Blk := [.box [.dat (iN a1.X), .dat (iN a1.Y), .dat (iN a1.W), .dat (iN a1.H)], .row 44 2 (List.map Cut.d out5)]
theorem Cf46_c7 {r : (List Cut)} {a0 : List Label} {a1 : Label} {N : Nat} {g : _ → Option ((List Cut))} (hn : Nat.beq (nid * 1000 + firstRegion b) 7 = true) (hz : Sf46_c7.ok p = true) (h : g (f46_c7 a0 a1 N) = some r → vc c p nid a st (KHead Sf46_c7 (Yf46_c7 a0 a1) (Xf46_c7 a0 a1) (Jf46_c7 a0 a1 N r) K)) (h2 : ∀ (out5 : List Cut), f46_c7 a0 a1 N out5 = some r → vc c p nid b (St.mk' Sf46_c7 (Vf46_c7 a0 a1 out5) (Bf46_c7 a0 a1 out5)) K) (hF : joinK (f46_c7 a0 a1 N) g = some r) : vc c p nid (.seq a b) st K :=
  vc_cut Sf46_c7 (Yf46_c7 a0 a1) (Xf46_c7 a0 a1) (Jf46_c7 a0 a1 N r) hz (h hF) fun y hy => h2 y hy
theorem Zf46_c7 {r : (List Cut)} {a0 : List Label} {a1 : Label} {N : Nat} {out5 : List Cut} {m0 : Nat} (hF : f46_c7 a0 a1 N out5 = some r) (h0 : AtH Sf46_c7 st (V2f46_c7 a0 a1 out5 m0) (B2f46_c7 a0 a1 out5 m0)) (em0 : m0 = List.length out5) : KHead Sf46_c7 (Yf46_c7 a0 a1) (Xf46_c7 a0 a1) (Jf46_c7 a0 a1 N r) K .normal st := by
  subst em0; exact khead (I := (Jf46_c7 a0 a1 N r)) (x := (out5)) hF h0
def f46_3b (r3 : (List Cut) → Int → Option ((List Cut))) (a0 : List Label) (a1 : Label) (N : Nat) (k1 : (List Cut) → Option ((List Cut))) (out5 : List Cut) (at6 : Int) : Option ((List Cut)) :=
 bif decide (at6 ≤ (12 : Int)) then ((f63 N a0 a1 (Cut.mk true at6)).bind fun x3 =>
 bif x3 then ((app 16 out5 [(Cut.mk true at6)]).bind fun x4 =>
 r3 x4 (W (at6 + (1 : Int))))
 else (r3 out5 (W (at6 + (1 : Int)))))
 else (k1 out5)
def f46_3 (a0 : List Label) (a1 : Label) (N : Nat) (k1 : (List Cut) → Option ((List Cut))) : Nat → (List Cut) → Int → Option ((List Cut))
  | 0, _, _ => none
  | n + 1, out5, at6 => f46_3b (f46_3 a0 a1 N k1 n) a0 a1 N k1 out5 at6
def Sf46_3 : Ann := ⟨[0, 3, 5, 6], [0, 90005], [(.slot 5, 90005, 44, 2)], []⟩
def Vf46_3 (a0 : List Label) (a1 : Label) (out5 : List Cut) (at6 : Int) : List SV := [.dat (sl_Label a0), .ptr 0 0, .rs 90005 (List.length out5), .dat (iN at6)]
def Bf46_3 (a0 : List Label) (a1 : Label) (out5 : List Cut) (at6 : Int) : List Blk := [.box [.dat (iN a1.X), .dat (iN a1.Y), .dat (iN a1.W), .dat (iN a1.H)], .row 44 2 (List.map Cut.d out5)]
def Yf46_3 (a0 : List Label) (a1 : Label) (y : Nat × (List Cut) × Int) : List SV := Vf46_3 a0 a1 y.2.1 y.2.2
def Xf46_3 (a0 : List Label) (a1 : Label) (y : Nat × (List Cut) × Int) : List Blk := Bf46_3 a0 a1 y.2.1 y.2.2
def Jf46_3 (a0 : List Label) (a1 : Label) (N : Nat) (k1 : (List Cut) → Option ((List Cut))) (r : (List Cut)) (y : Nat × (List Cut) × Int) : Prop := f46_3 a0 a1 N k1 y.1 y.2.1 y.2.2 = some r
def V2f46_3 (a0 : List Label) (a1 : Label) (out5 : List Cut) (at6 : Int) (m0 : Nat) : List SV := [.dat (sl_Label a0), .ptr 0 0, .rs 90005 m0, .dat (iN at6)]
def B2f46_3 (a0 : List Label) (a1 : Label) (out5 : List Cut) (at6 : Int) (m0 : Nat) : List Blk := [.box [.dat (iN a1.X), .dat (iN a1.Y), .dat (iN a1.W), .dat (iN a1.H)], .row 44 2 (List.map Cut.d out5)]
theorem Lf46_3 {r : (List Cut)} {a0 : List Label} {a1 : Label} {N : Nat} {k1 : (List Cut) → Option ((List Cut))} {fu : Nat} {out5 : List Cut} {at6 : Int} {m0 : Nat} (hz : Sf46_3.ok p = true) (h0 : AtH Sf46_3 st (V2f46_3 a0 a1 out5 at6 m0) (B2f46_3 a0 a1 out5 at6 m0)) (em0 : m0 = List.length out5) (h : ∀ (n : Nat) (out5 : List Cut) (at6 : Int), f46_3b (f46_3 a0 a1 N k1 n) a0 a1 N k1 out5 at6 = some r → vc c p nid a (St.mk' Sf46_3 (Vf46_3 a0 a1 out5 at6) (Bf46_3 a0 a1 out5 at6)) (Kloop Sf46_3 (Yf46_3 a0 a1) (Xf46_3 a0 a1) (Jf46_3 a0 a1 N k1 r) Prod.fst (n + 1, out5, at6) K)) (hF : f46_3 a0 a1 N k1 fu out5 at6 = some r) : vc c p nid (.loop a) st K := by
  subst em0; refine vc_loop Sf46_3 (Yf46_3 a0 a1) (Xf46_3 a0 a1) (Jf46_3 a0 a1 N k1 r) Prod.fst hz (kheadL (x := (fu, out5, at6)) hF h0) ?_
  rintro ⟨_ | n, out5, at6⟩ hI
  · cases hI
  · exact h n out5 at6 hI
theorem Mf46_3 {r : (List Cut)} {a0 : List Label} {a1 : Label} {N : Nat} {k1 : (List Cut) → Option ((List Cut))} {n : Nat} {out5 : List Cut} {at6 : Int} {out5_ : List Cut} {at6_ : Int} {m0 : Nat} (hF : f46_3 a0 a1 N k1 n out5 at6 = some r) (h0 : AtH Sf46_3 st (V2f46_3 a0 a1 out5 at6 m0) (B2f46_3 a0 a1 out5 at6 m0)) (em0 : m0 = List.length out5) : Kloop Sf46_3 (Yf46_3 a0 a1) (Xf46_3 a0 a1) (Jf46_3 a0 a1 N k1 r) Prod.fst (n + 1, out5_, at6_) K .normal st := by
  subst em0; exact kback (y := (n, out5, at6)) hF (Nat.lt_succ_self n) h0
def f46 (N : Nat) (a0 : List Label) (a1 : Label) : Option ((List Cut)) :=
 joinK (f46_c7 a0 a1 N) fun k1 =>
 f46_3 a0 a1 N k1 N [] (0 : Int)
def G46 (ds : List D) (d : D) : Prop := ∃ (N : Nat) (a0 : List Label) (a1 : Label) (r : (List Cut)), ds = [sl_Label a0, Label.d a1] ∧ f46 N a0 a1 = some r ∧ d = sl_Cut r
theorem G46.step {N : Nat} {a0 : List Label} {a1 : Label} {ρ : Type} {A : (List Cut) → Option ρ} {q : ρ} {ds : List D} {K : D → Prop} (hd : ds = [sl_Label a0, Label.d a1]) (h : ∀ r, A r = some q → K (sl_Cut r)) (hF : (f46 N a0 a1).bind A = some q) : ∃ d, G46 ds d ∧ K d := by
  obtain ⟨r, hr, hA⟩ := bind_some hF
  exact ⟨_, ⟨N, a0, a1, r, hd, hr, rfl⟩, h r hA⟩
set_option maxRecDepth 20000 in
set_option maxHeartbeats 4000000 in
theorem P46 : PureOK Try.prog 46 G46 := by
  refine pure_of_vc (c := mkCtx tyTree [(63, true, purePg [[4], [0, 0, 0, 0], [0, 0]] G63)]) rfl tyOK (ctx_cons (callable Try.func63 rfl rfl) P63 (ctx_nil)) [[2]] 2 Try.func46 rfl rfl (by decide) (by kernel_rfl) ?_
  rintro ds d ⟨N, a0, a1, r, rfl, hF, rfl⟩ hok
  clear hok
  refine ⟨rfl, ?_⟩
  show vc _ _ _ _ ⟨[(0, .dat (sl_Label a0)), (1, .dat (Label.d a1))], []⟩ _
  unfold f46 at hF
  repeat' (first
    | ((with_reducible refine q0 _ _ ?_); clear Q q0 q1 q2)
    | ((with_reducible refine q1 _ _ _ _ ?_); clear Q q0 q1 q2)
    | ((with_reducible refine q2 _ _ _ ?_); clear Q q0 q1 q2)
    | ((with_reducible refine seq_op ?hx (fun Q q0 q1 q2 => ?_)); (case hx => exact rfl); conv => whnf)
    | ((with_reducible refine cond_id ?_); (first | ((refine condKT rfl ?hy ?_); (case hy => first | assumption | exact notT (by assumption) | exact rfl)) | ((refine condKF rfl ?hy ?_); (case hy => first | assumption | exact notF (by assumption) | exact rfl)) | (revert hF; (with_reducible refine condF ?hx ?_ ?_); (case hx => exact rfl); all_goals (intro hc hF))))
    | ((with_reducible refine seq_nil ?_); (first | ((with_reducible refine hR _ ?_); clear R hR) | ((with_reducible refine hL _ ?_); clear L hL)))
    | ((with_reducible refine int_step ?_); conv => whnf)
    | ((with_reducible refine len_step ?_); conv => whnf)
    | with_reducible refine vc_block ?_
    | with_reducible refine vc_skip ?_
    | with_reducible refine vc_ret ?_
    | with_reducible refine vc_exit ?_
    | ((with_reducible refine vc_seqN [12, 7] ?hx ?_); (case hx => exact rfl))
    | (with_reducible refine vc_region (fun R hR => ?_))
    | fail
    | (revert hF; (refine Cf46_c12 rfl rfl ?_ ?_); (intro hF); rotate_left; (intro out5' hF; unfold f46_c12 at hF); rotate_right)
    | exact Zf46_c12 hF ⟨_, rfl, rfl, rfl, rfl⟩ (by first | exact rfl | assumption | omega)
    | (revert hF; (refine Lf46_8 rfl ⟨_, rfl, rfl, rfl, rfl⟩ (by first | exact rfl | assumption | omega) ?_); intro n out5' at7 hF; unfold f46_8b at hF)
    | exact Mf46_8 hF ⟨_, rfl, rfl, rfl, rfl⟩ (by first | exact rfl | assumption | omega)
    | (revert hF; (refine Cf46_c7 rfl rfl ?_ ?_); (intro hF); rotate_left; (intro out5 hF; unfold f46_c7 at hF); rotate_right)
    | exact Zf46_c7 hF ⟨_, rfl, rfl, rfl, rfl⟩ (by first | exact rfl | assumption | omega)
    | (revert hF; (refine Lf46_3 rfl ⟨_, rfl, rfl, rfl, rfl⟩ (by first | exact rfl | assumption | omega) ?_); intro n out5 at6 hF; unfold f46_3b at hF)
    | exact Mf46_3 hF ⟨_, rfl, rfl, rfl, rfl⟩ (by first | exact rfl | assumption | omega)
    | (revert hF; (with_reducible refine G63.step ?hx ?_); (case hx => exact rfl); intro v hF; conv => whnf)
    | with_reducible refine k_seq_ret ?_
    | with_reducible refine k_seq_exit ?_
    | with_reducible refine k_blk ?_
    | with_reducible refine k_blk_ret ?_
    | with_reducible refine k_blk_here ?_
    | ((with_reducible refine k_blk_out ?hx ?_); (case hx => exact rfl))
    | with_reducible refine k_loop_ret ?_
    | with_reducible refine k_loop_exit ?_
    | ((with_reducible have hG := app_fact hF); clear hF; (first | ((refine app_row hG ?hn ?hs (fun q hF => ?_)); (case hn => first | exact rfl | assumption | omega); (case hs => exact rfl)) | ((refine app_nil (d := Cut.d) hG ?hs (fun q hF => ?_)); (case hs => exact rfl)) | ((refine app_gen (d := Cut.d) hG ?ho ?hn ?hs (fun q hF => ?_)); (case ho => exact rfl); (case hn => exact rfl); (case hs => exact rfl))); clear hG; conv => whnf)
    | ((refine row_all ?hn ?_); (case hn => first | exact rfl | (simp; done) | (simp; omega)); conv => whnf)
    | ((with_reducible refine le_step ?hn ?_); (case hn => first | exact rfl | assumption | omega); conv => whnf)
    | ((refine ⟨?hx, ?_⟩); (case hx => exact ⟨rfl, Nat.le_of_ble_eq_true rfl, rfl⟩); conv => whnf)
    | ((with_reducible refine ex_step ?_); conv => whnf)
    | ((with_reducible refine both_T ?hx ?_); (case hx => first | exact rfl | assumption | exact notT (by assumption)); conv => whnf)
    | ((with_reducible refine both_F ?hx ?_); (case hx => first | exact rfl | assumption | exact notF (by assumption)); conv => whnf)
    | (revert hF; (with_reducible refine ite_step ?_ ?_) <;> (intro hc hF; conv => whnf))
    | ((with_reducible refine vc_condT ?hx ?_); (case hx => exact rfl))
    | ((with_reducible refine vc_condF ?hx ?_); (case hx => exact rfl))
    | (show retD _ _ _ _ _ _; conv => whnf)
    | ((refine ⟨?hx, trivial⟩); (case hx => (cases hF; exact rfl)))
    | ((refine ⟨?hx, ?_⟩); (case hx => decide); conv => whnf)
    | ((with_reducible refine k_seq ?_))
    | (have hF : (none : Option _) = some _ := hF; cases hF))
end
end Go.Vc
namespace Go.Vc
open Go.Proofs
set_option linter.unusedVariables false
set_option linter.unnecessarySimpa false
set_option linter.unusedSimpArgs false
section
variable {c : Ctx} {p nid : Nat} {a b : Code} {st : St} {K : Ex → St → Prop}
/- f59: tusche/tuscheref06.apart -/
def f59b (self : (List Label) → Label → Option (Bool)) (N : Nat) (a0 : List Label) (a1 : Label) : Option (Bool) :=
 bif decide ((List.length a0 : Int) < (2 : Int)) then (some (true))
 else ((f46 N a0 a1).bind fun x1 =>
 bif decide ((List.length x1 : Int) = (0 : Int)) then (some (false))
 else ((ix x1 (0 : Int)).bind fun x2 =>
 (f64 N a1 x2).bind fun x3 =>
 (f62 N a0 x3.1).bind fun x4 =>
 (self x4 x3.1).bind fun x5 =>
 bif x5 then ((f62 N a0 x3.2.1).bind fun x6 =>
 (self x6 x3.2.1).bind fun x7 =>
 some (x7))
 else (some (false))))
def f59 : Nat → (List Label) → Label → Option (Bool)
  | 0, _, _ => none
  | N + 1, a0, a1 => f59b (f59 N) N a0 a1
def H59 (N : Nat) (ds : List D) (d : D) : Prop := ∃ (a0 : List Label) (a1 : Label) (r : Bool), ds = [sl_Label a0, Label.d a1] ∧ f59 N a0 a1 = some r ∧ d = bN r
def G59 (ds : List D) (d : D) : Prop := ∃ N : Nat, H59 N ds d
theorem H59.step {N : Nat} {a0 : List Label} {a1 : Label} {ρ : Type} {A : Bool → Option ρ} {q : ρ} {ds : List D} {K : D → Prop} (hd : ds = [sl_Label a0, Label.d a1]) (h : ∀ r, A r = some q → K (bN r)) (hF : (f59 N a0 a1).bind A = some q) : ∃ d, H59 N ds d ∧ K d := by
  obtain ⟨r, hr, hA⟩ := bind_some hF
  exact ⟨_, ⟨a0, a1, r, hd, hr, rfl⟩, h r hA⟩
theorem G59.step {N : Nat} {a0 : List Label} {a1 : Label} {ρ : Type} {A : Bool → Option ρ} {q : ρ} {ds : List D} {K : D → Prop} (hd : ds = [sl_Label a0, Label.d a1]) (h : ∀ r, A r = some q → K (bN r)) (hF : (f59 N a0 a1).bind A = some q) : ∃ d, G59 ds d ∧ K d := by
  obtain ⟨r, hr, hA⟩ := bind_some hF
  exact ⟨_, ⟨N, a0, a1, r, hd, hr, rfl⟩, h r hA⟩
set_option maxRecDepth 20000 in
set_option maxHeartbeats 4000000 in
theorem Q59 (N : Nat) : PureOK Try.prog 59 (H59 N) := by
  induction N with
  | zero =>
    rintro w Z vs ds d h1 h2 h3 ⟨a0, a1, r, h4, h5, h6⟩
    cases h5
  | succ N ih =>
    refine pure_of_vc (c := mkCtx tyTree [(59, true, purePg [[4], [0, 0, 0, 0]] (H59 N)), (64, true, purePg [[0, 0, 0, 0], [0, 0]] G64), (62, true, purePg [[4], [0, 0, 0, 0]] G62), (46, true, purePg [[4], [0, 0, 0, 0]] G46)]) rfl tyOK (ctx_cons (callable Try.func59 rfl rfl) ih (ctx_cons (callable Try.func64 rfl rfl) P64 (ctx_cons (callable Try.func62 rfl rfl) P62 (ctx_cons (callable Try.func46 rfl rfl) P46 (ctx_nil))))) [[0]] 2 Try.func59 rfl rfl (by decide) (by kernel_rfl) ?_
    rintro ds d ⟨a0, a1, r, rfl, hF, rfl⟩ hok
    clear hok
    refine ⟨rfl, ?_⟩
    show vc _ _ _ _ ⟨[(0, .dat (sl_Label a0)), (1, .dat (Label.d a1))], []⟩ _
    have hF : f59b (f59 N) N a0 a1 = some r := hF
    unfold f59b at hF
    repeat' (first
      | ((with_reducible refine q0 _ _ ?_); clear Q q0 q1 q2)
      | ((with_reducible refine q1 _ _ _ _ ?_); clear Q q0 q1 q2)
      | ((with_reducible refine q2 _ _ _ ?_); clear Q q0 q1 q2)
      | ((with_reducible refine seq_op ?hx (fun Q q0 q1 q2 => ?_)); (case hx => exact rfl); conv => whnf)
      | ((with_reducible refine draw_op ?hx (fun Q q0 q1 q2 => ?_)); (case hx => exact rfl); conv => whnf)
      | ((with_reducible refine seq_op0 ?hx (fun Q q0 q1 q2 => ?_)); (case hx => exact rfl); conv => whnf)
      | ((with_reducible refine draw_op0 ?hx (fun Q q0 q1 q2 => ?_)); (case hx => exact rfl); conv => whnf)
      | ((with_reducible refine seq_off ?hx ?_); (case hx => exact rfl))
      | ((with_reducible refine seq_off0 ?hx ?_); (case hx => exact rfl))
      | ((with_reducible refine draw_off ?hx ?_); (case hx => exact rfl))
      | ((with_reducible refine draw_off0 ?hx ?_); (case hx => exact rfl))
      | ((with_reducible refine draw_id ?_); (first | ((refine draw_opK rfl ?hy (fun Q q0 q1 q2 => ?_)); (case hy => first | assumption | exact notT (by assumption) | exact rfl); conv => whnf) | ((refine draw_offK rfl ?hy ?_); (case hy => first | assumption | exact notF (by assumption) | exact rfl)) | ((refine draw_opK0 rfl ?hy (fun Q q0 q1 q2 => ?_)); (case hy => first | assumption | exact notT (by assumption) | exact rfl); conv => whnf) | ((refine draw_offK0 rfl ?hy ?_); (case hy => first | assumption | exact notF (by assumption) | exact rfl)) | (revert hF; (with_reducible refine draw_opF ?hx ?_ ?_); (case hx => exact rfl); (intro hc hF Q q0 q1 q2; conv => whnf); rotate_left; (intro hc hF); rotate_right) | (revert hF; (with_reducible refine draw_opN ?hx ?_ ?_); (case hx => exact rfl); (intro hc hF); rotate_left; (intro hc hF Q q0 q1 q2; conv => whnf); rotate_right) | (revert hF; (with_reducible refine draw_opF0 ?hx ?_ ?_); (case hx => exact rfl); (intro hc hF Q q0 q1 q2; conv => whnf); rotate_left; (intro hc hF); rotate_right) | (revert hF; (with_reducible refine draw_opN0 ?hx ?_ ?_); (case hx => exact rfl); (intro hc hF); rotate_left; (intro hc hF Q q0 q1 q2; conv => whnf); rotate_right)))
      | ((with_reducible refine cond_id ?_); (first | ((refine condKT rfl ?hy ?_); (case hy => first | assumption | exact notT (by assumption) | exact rfl)) | ((refine condKF rfl ?hy ?_); (case hy => first | assumption | exact notF (by assumption) | exact rfl)) | (revert hF; (with_reducible refine condF ?hx ?_ ?_); (case hx => exact rfl); all_goals (intro hc hF))))
      | ((with_reducible refine seq_nil ?_); (first | ((with_reducible refine hR _ ?_); clear R hR) | ((with_reducible refine hL _ ?_); clear L hL)))
      | ((with_reducible refine draw_nil ?_); (with_reducible refine hR _ _ ?hx ?_); (case hx => kernel_rfl); (first | clear R hR | clear hR))
      | ((with_reducible refine int_step ?_); conv => whnf)
      | ((with_reducible refine len_step ?_); conv => whnf)
      | ((with_reducible refine idx2 (by assumption) ?_); conv => whnf)
      | ((with_reducible refine idx3 (by assumption) ?_); conv => whnf)
      | with_reducible refine vc_block ?_
      | with_reducible refine vc_skip ?_
      | with_reducible refine vc_ret ?_
      | with_reducible refine vc_exit ?_
      | ((with_reducible refine vc_seqN [] ?hx ?_); (case hx => exact rfl))
      | (with_reducible refine vc_region (fun R hR => ?_))
      | ((with_reducible refine vc_draw ?hx (fun R hR => ?_)); (case hx => exact rfl))
      | fail
      | (revert hF; (with_reducible refine G46.step ?hx ?_); (case hx => exact rfl); intro v hF; conv => whnf)
      | (revert hF; (with_reducible refine G62.step ?hx ?_); (case hx => exact rfl); intro v hF; conv => whnf)
      | (revert hF; (with_reducible refine G64.step ?hx ?_); (case hx => exact rfl); intro v hF; conv => whnf)
      | (revert hF; (with_reducible refine H59.step ?hx ?_); (case hx => exact rfl); intro v hF; conv => whnf)
      | with_reducible refine k_seq_ret ?_
      | with_reducible refine k_seq_exit ?_
      | with_reducible refine k_blk ?_
      | with_reducible refine k_blk_ret ?_
      | with_reducible refine k_blk_here ?_
      | ((with_reducible refine k_blk_out ?hx ?_); (case hx => exact rfl))
      | (revert hF; (with_reducible refine idx1 ?hn ?_); (case hn => first | exact rfl | exact (List.length_map _) | assumption | omega | simp); intro x hx hF; conv => whnf)
      | ((refine row_all ?hn ?_); (case hn => first | exact rfl | (simp; done) | (simp; omega)); conv => whnf)
      | ((with_reducible refine le_step ?hn ?_); (case hn => first | exact rfl | assumption | omega); conv => whnf)
      | ((refine ⟨?hx, ?_⟩); (case hx => exact ⟨rfl, Nat.le_of_ble_eq_true rfl, rfl⟩); conv => whnf)
      | ((with_reducible refine ex_step ?_); conv => whnf)
      | ((with_reducible refine both_T ?hx ?_); (case hx => first | exact rfl | assumption | exact notT (by assumption)); conv => whnf)
      | ((with_reducible refine both_F ?hx ?_); (case hx => first | exact rfl | assumption | exact notF (by assumption)); conv => whnf)
      | (revert hF; (with_reducible refine ite_step ?_ ?_) <;> (intro hc hF; conv => whnf))
      | ((with_reducible refine vc_condT ?hx ?_); (case hx => exact rfl))
      | ((with_reducible refine vc_condF ?hx ?_); (case hx => exact rfl))
      | (show retD _ _ _ _ _ _; conv => whnf)
      | ((refine ⟨?hx, trivial⟩); (case hx => (cases hF; exact rfl)))
      | ((refine ⟨?hx, ?_⟩); (case hx => decide); conv => whnf)
      | ((with_reducible refine k_seq ?_))
      | (have hF : (none : Option _) = some _ := hF; cases hF))
theorem P59 : PureOK Try.prog 59 G59 := PureOK.ex Q59
end
end Go.Vc
namespace Go.Vc
open Go.Proofs
set_option linter.unusedVariables false
set_option linter.unnecessarySimpa false
set_option linter.unusedSimpArgs false
section
variable {c : Ctx} {p nid : Nat} {a b : Code} {st : St} {K : Ex → St → Prop}
/- f23: tusche/tuscheref06.Possible -/
def f23 (N : Nat) (a0 : Layout) : Option (Int) :=
 (f21 N a0).bind fun x1 =>
 bif decide (x1 = (0 : Int)) then ((f47 N a0).bind fun x2 =>
 (f59 N a0.Labels x2).bind fun x3 =>
 bif !x3 then (some ((14 : Int)))
 else (some (x1)))
 else (some (x1))
def G23 (ds : List D) (d : D) : Prop := ∃ (N : Nat) (a0 : Layout) (r : Int), ds = [Layout.d a0] ∧ f23 N a0 = some r ∧ d = iN r
theorem G23.step {N : Nat} {a0 : Layout} {ρ : Type} {A : Int → Option ρ} {q : ρ} {ds : List D} {K : D → Prop} (hd : ds = [Layout.d a0]) (h : ∀ r, A r = some q → K (iN r)) (hF : (f23 N a0).bind A = some q) : ∃ d, G23 ds d ∧ K d := by
  obtain ⟨r, hr, hA⟩ := bind_some hF
  exact ⟨_, ⟨N, a0, r, hd, hr, rfl⟩, h r hA⟩
set_option maxRecDepth 20000 in
set_option maxHeartbeats 4000000 in
theorem P23 : PureOK Try.prog 23 G23 := by
  refine pure_of_vc (c := mkCtx tyTree [(59, true, purePg [[4], [0, 0, 0, 0]] G59), (47, true, purePg [[0, 0, 4]] G47), (21, true, purePg [[0, 0, 4]] G21)]) rfl tyOK (ctx_cons (callable Try.func59 rfl rfl) P59 (ctx_cons (callable Try.func47 rfl rfl) P47 (ctx_cons (callable Try.func21 rfl rfl) P21 (ctx_nil)))) [[0]] 1 Try.func23 rfl rfl (by decide) (by kernel_rfl) ?_
  rintro ds d ⟨N, a0, r, rfl, hF, rfl⟩ hok
  clear hok
  refine ⟨rfl, ?_⟩
  show vc _ _ _ _ ⟨[(0, .dat (Layout.d a0))], []⟩ _
  unfold f23 at hF
  repeat' (first
    | ((with_reducible refine q0 _ _ ?_); clear Q q0 q1 q2)
    | ((with_reducible refine q1 _ _ _ _ ?_); clear Q q0 q1 q2)
    | ((with_reducible refine q2 _ _ _ ?_); clear Q q0 q1 q2)
    | ((with_reducible refine seq_op ?hx (fun Q q0 q1 q2 => ?_)); (case hx => exact rfl); conv => whnf)
    | ((with_reducible refine draw_op ?hx (fun Q q0 q1 q2 => ?_)); (case hx => exact rfl); conv => whnf)
    | ((with_reducible refine seq_off ?hx ?_); (case hx => exact rfl))
    | ((with_reducible refine seq_off0 ?hx ?_); (case hx => exact rfl))
    | ((with_reducible refine draw_off ?hx ?_); (case hx => exact rfl))
    | ((with_reducible refine draw_off0 ?hx ?_); (case hx => exact rfl))
    | ((with_reducible refine draw_id ?_); (first | ((refine draw_opK rfl ?hy (fun Q q0 q1 q2 => ?_)); (case hy => first | assumption | exact notT (by assumption) | exact rfl); conv => whnf) | ((refine draw_offK rfl ?hy ?_); (case hy => first | assumption | exact notF (by assumption) | exact rfl)) | ((refine draw_opK0 rfl ?hy (fun Q q0 q1 q2 => ?_)); (case hy => first | assumption | exact notT (by assumption) | exact rfl); conv => whnf) | ((refine draw_offK0 rfl ?hy ?_); (case hy => first | assumption | exact notF (by assumption) | exact rfl)) | (revert hF; (with_reducible refine draw_opF ?hx ?_ ?_); (case hx => exact rfl); (intro hc hF Q q0 q1 q2; conv => whnf); rotate_left; (intro hc hF); rotate_right) | (revert hF; (with_reducible refine draw_opN ?hx ?_ ?_); (case hx => exact rfl); (intro hc hF); rotate_left; (intro hc hF Q q0 q1 q2; conv => whnf); rotate_right) | (revert hF; (with_reducible refine draw_opF0 ?hx ?_ ?_); (case hx => exact rfl); (intro hc hF Q q0 q1 q2; conv => whnf); rotate_left; (intro hc hF); rotate_right) | (revert hF; (with_reducible refine draw_opN0 ?hx ?_ ?_); (case hx => exact rfl); (intro hc hF); rotate_left; (intro hc hF Q q0 q1 q2; conv => whnf); rotate_right)))
    | ((with_reducible refine cond_id ?_); (first | ((refine condKT rfl ?hy ?_); (case hy => first | assumption | exact notT (by assumption) | exact rfl)) | ((refine condKF rfl ?hy ?_); (case hy => first | assumption | exact notF (by assumption) | exact rfl)) | (revert hF; (with_reducible refine condF ?hx ?_ ?_); (case hx => exact rfl); all_goals (intro hc hF))))
    | ((with_reducible refine seq_nil ?_); (first | ((with_reducible refine hR _ ?_); clear R hR) | ((with_reducible refine hL _ ?_); clear L hL)))
    | ((with_reducible refine draw_nil ?_); (with_reducible refine hR _ _ ?hx ?_); (case hx => kernel_rfl); (first | clear R hR | clear hR))
    | ((with_reducible refine int_step ?_); conv => whnf)
    | with_reducible refine vc_block ?_
    | with_reducible refine vc_skip ?_
    | with_reducible refine vc_ret ?_
    | with_reducible refine vc_exit ?_
    | ((with_reducible refine vc_seqN [] ?hx ?_); (case hx => exact rfl))
    | (with_reducible refine vc_region (fun R hR => ?_))
    | ((with_reducible refine vc_draw ?hx (fun R hR => ?_)); (case hx => exact rfl))
    | fail
    | (revert hF; (with_reducible refine G21.step ?hx ?_); (case hx => exact rfl); intro v hF; conv => whnf)
    | (revert hF; (with_reducible refine G47.step ?hx ?_); (case hx => exact rfl); intro v hF; conv => whnf)
    | (revert hF; (with_reducible refine G59.step ?hx ?_); (case hx => exact rfl); intro v hF; conv => whnf)
    | with_reducible refine k_seq_ret ?_
    | with_reducible refine k_seq_exit ?_
    | with_reducible refine k_blk ?_
    | with_reducible refine k_blk_ret ?_
    | with_reducible refine k_blk_here ?_
    | ((with_reducible refine k_blk_out ?hx ?_); (case hx => exact rfl))
    | ((refine row_all ?hn ?_); (case hn => first | exact rfl | (simp; done) | (simp; omega)); conv => whnf)
    | ((with_reducible refine le_step ?hn ?_); (case hn => first | exact rfl | assumption | omega); conv => whnf)
    | ((refine ⟨?hx, ?_⟩); (case hx => exact ⟨rfl, Nat.le_of_ble_eq_true rfl, rfl⟩); conv => whnf)
    | ((with_reducible refine ex_step ?_); conv => whnf)
    | ((with_reducible refine both_T ?hx ?_); (case hx => first | exact rfl | assumption | exact notT (by assumption)); conv => whnf)
    | ((with_reducible refine both_F ?hx ?_); (case hx => first | exact rfl | assumption | exact notF (by assumption)); conv => whnf)
    | (revert hF; (with_reducible refine ite_step ?_ ?_) <;> (intro hc hF; conv => whnf))
    | ((with_reducible refine vc_condT ?hx ?_); (case hx => exact rfl))
    | ((with_reducible refine vc_condF ?hx ?_); (case hx => exact rfl))
    | (show retD _ _ _ _ _ _; conv => whnf)
    | ((refine ⟨?hx, trivial⟩); (case hx => (cases hF; exact rfl)))
    | ((refine ⟨?hx, ?_⟩); (case hx => decide); conv => whnf)
    | ((with_reducible refine k_seq ?_))
    | (have hF : (none : Option _) = some _ := hF; cases hF))
end
end Go.Vc
namespace Go.Vc
open Go.Proofs
set_option linter.unusedVariables false
set_option linter.unnecessarySimpa false
set_option linter.unusedSimpArgs false
section
variable {c : Ctx} {p nid : Nat} {a b : Code} {st : St} {K : Ex → St → Prop}
/- f30: tusche/tuscheref06.Most -/
def f30_c30 (a0 : Int) (a1 : Int) (b600 : List Int) (b601 : List Int) : Option (Int × Int × Int) :=
 (chkI 13 a0).bind fun _ =>
 (chkI 13 a1).bind fun _ =>
 (ixN b600 (Int.toNat a0 * 13 + Int.toNat a1)).bind fun x4 =>
 (chkI 13 a0).bind fun _ =>
 (chkI 13 a1).bind fun _ =>
 (ixN b601 (Int.toNat a0 * 13 + Int.toNat a1)).bind fun x5 =>
 some (x4, x5, (0 : Int))
def Sf30_c30 : Ann := ⟨[0, 1, 10, 11], [600, 601], [], []⟩
def Vf30_c30 (a0 : Int) (a1 : Int) (b600 : List Int) (b601 : List Int) : List SV := [.dat (iN a0), .dat (iN a1), .ptr 600 0, .ptr 601 0]
def Bf30_c30 (a0 : Int) (a1 : Int) (b600 : List Int) (b601 : List Int) : List Blk := [.arr (List.map iN b600), .arr (List.map iN b601)]
def Yf30_c30 (a0 : Int) (a1 : Int) (y : (List Int) × (List Int)) : List SV := Vf30_c30 a0 a1 y.1 y.2
def Xf30_c30 (a0 : Int) (a1 : Int) (y : (List Int) × (List Int)) : List Blk := Bf30_c30 a0 a1 y.1 y.2
def Jf30_c30 (a0 : Int) (a1 : Int) (r : Int × Int × Int) (y : (List Int) × (List Int)) : Prop := f30_c30 a0 a1 y.1 y.2 = some r
theorem Cf30_c30 {r : Int × Int × Int} {a0 : Int} {a1 : Int} {g : _ → Option (Int × Int × Int)} (hn : Nat.beq (nid * 1000 + firstRegion b) 30 = true) (hz : Sf30_c30.ok p = true) (h : g (f30_c30 a0 a1) = some r → vc c p nid a st (KHead Sf30_c30 (Yf30_c30 a0 a1) (Xf30_c30 a0 a1) (Jf30_c30 a0 a1 r) K)) (h2 : ∀ (b600 : List Int) (b601 : List Int), f30_c30 a0 a1 b600 b601 = some r → vc c p nid b (St.mk' Sf30_c30 (Vf30_c30 a0 a1 b600 b601) (Bf30_c30 a0 a1 b600 b601)) K) (hF : joinK (f30_c30 a0 a1) g = some r) : vc c p nid (.seq a b) st K :=
  vc_cut Sf30_c30 (Yf30_c30 a0 a1) (Xf30_c30 a0 a1) (Jf30_c30 a0 a1 r) hz (h hF) fun y hy => h2 y.1 y.2 hy
theorem Zf30_c30 {r : Int × Int × Int} {a0 : Int} {a1 : Int} {b600 : List Int} {b601 : List Int} (hF : f30_c30 a0 a1 b600 b601 = some r) (h0 : AtH Sf30_c30 st (Vf30_c30 a0 a1 b600 b601) (Bf30_c30 a0 a1 b600 b601)) : KHead Sf30_c30 (Yf30_c30 a0 a1) (Xf30_c30 a0 a1) (Jf30_c30 a0 a1 r) K .normal st := by
  exact khead (I := (Jf30_c30 a0 a1 r)) (x := (b600, b601)) hF h0
def f30_c9 (a0 : Int) (a1 : Int) (a2 : List Kind) (v12 : Int) (r8 : Int → (List Int) → (List Int) → Option (Int × Int × Int)) (b600' : List Int) (b601' : List Int) : Option (Int × Int × Int) :=
 r8 (W (v12 + (1 : Int))) (b600') (b601')
def Sf30_c9 : Ann := ⟨[0, 1, 2, 10, 11, 12], [600, 601], [], []⟩
def Vf30_c9 (a0 : Int) (a1 : Int) (a2 : List Kind) (v12 : Int) (b600' : List Int) (b601' : List Int) : List SV := [.dat (iN a0), .dat (iN a1), .dat (sl_Kind a2), .ptr 600 0, .ptr 601 0, .dat (iN v12)]
def Bf30_c9 (a0 : Int) (a1 : Int) (a2 : List Kind) (v12 : Int) (b600' : List Int) (b601' : List Int) : List Blk := [.arr (List.map iN (b600')), .arr (List.map iN (b601'))]
def Yf30_c9 (a0 : Int) (a1 : Int) (a2 : List Kind) (v12 : Int) (y : (List Int) × (List Int)) : List SV := Vf30_c9 a0 a1 a2 v12 y.1 y.2
def Xf30_c9 (a0 : Int) (a1 : Int) (a2 : List Kind) (v12 : Int) (y : (List Int) × (List Int)) : List Blk := Bf30_c9 a0 a1 a2 v12 y.1 y.2
def Jf30_c9 (a0 : Int) (a1 : Int) (a2 : List Kind) (v12 : Int) (r8 : Int → (List Int) → (List Int) → Option (Int × Int × Int)) (r : Int × Int × Int) (y : (List Int) × (List Int)) : Prop := f30_c9 a0 a1 a2 v12 r8 y.1 y.2 = some r
theorem Cf30_c9 {r : Int × Int × Int} {a0 : Int} {a1 : Int} {a2 : List Kind} {v12 : Int} {r8 : Int → (List Int) → (List Int) → Option (Int × Int × Int)} {g : _ → Option (Int × Int × Int)} (hn : Nat.beq (nid * 1000 + firstRegion b) 9 = true) (hz : Sf30_c9.ok p = true) (h : g (f30_c9 a0 a1 a2 v12 r8) = some r → vc c p nid a st (KHead Sf30_c9 (Yf30_c9 a0 a1 a2 v12) (Xf30_c9 a0 a1 a2 v12) (Jf30_c9 a0 a1 a2 v12 r8 r) K)) (h2 : ∀ (b600' : List Int) (b601' : List Int), f30_c9 a0 a1 a2 v12 r8 b600' b601' = some r → vc c p nid b (St.mk' Sf30_c9 (Vf30_c9 a0 a1 a2 v12 b600' b601') (Bf30_c9 a0 a1 a2 v12 b600' b601')) K) (hF : joinK (f30_c9 a0 a1 a2 v12 r8) g = some r) : vc c p nid (.seq a b) st K :=
  vc_cut Sf30_c9 (Yf30_c9 a0 a1 a2 v12) (Xf30_c9 a0 a1 a2 v12) (Jf30_c9 a0 a1 a2 v12 r8 r) hz (h hF) fun y hy => h2 y.1 y.2 hy
theorem Zf30_c9 {r : Int × Int × Int} {a0 : Int} {a1 : Int} {a2 : List Kind} {v12 : Int} {r8 : Int → (List Int) → (List Int) → Option (Int × Int × Int)} {b600' : List Int} {b601' : List Int} (hF : f30_c9 a0 a1 a2 v12 r8 b600' b601' = some r) (h0 : AtH Sf30_c9 st (Vf30_c9 a0 a1 a2 v12 b600' b601') (Bf30_c9 a0 a1 a2 v12 b600' b601')) : KHead Sf30_c9 (Yf30_c9 a0 a1 a2 v12) (Xf30_c9 a0 a1 a2 v12) (Jf30_c9 a0 a1 a2 v12 r8 r) K .normal st := by
  exact khead (I := (Jf30_c9 a0 a1 a2 v12 r8 r)) (x := (b600', b601')) hF h0
def f30_c12 (a0 : Int) (a1 : Int) (a2 : List Kind) (v12 : Int) (v13 : Int) (r11 : Int → (List Int) → (List Int) → Option (Int × Int × Int)) (b600'' : List Int) (b601'' : List Int) : Option (Int × Int × Int) :=
 r11 (W (v13 + (1 : Int))) (b600'') (b601'')
def Sf30_c12 : Ann := ⟨[0, 1, 2, 10, 11, 12, 13], [600, 601], [], []⟩
def Vf30_c12 (a0 : Int) (a1 : Int) (a2 : List Kind) (v12 : Int) (v13 : Int) (b600'' : List Int) (b601'' : List Int) : List SV := [.dat (iN a0), .dat (iN a1), .dat (sl_Kind a2), .ptr 600 0, .ptr 601 0, .dat (iN v12), .dat (iN v13)]
def Bf30_c12 (a0 : Int) (a1 : Int) (a2 : List Kind) (v12 : Int) (v13 : Int) (b600'' : List Int) (b601'' : List Int) : List Blk := [.arr (List.map iN (b600'')), .arr (List.map iN (b601''))]
def Yf30_c12 (a0 : Int) (a1 : Int) (a2 : List Kind) (v12 : Int) (v13 : Int) (y : (List Int) × (List Int)) : List SV := Vf30_c12 a0 a1 a2 v12 v13 y.1 y.2
def Xf30_c12 (a0 : Int) (a1 : Int) (a2 : List Kind) (v12 : Int) (v13 : Int) (y : (List Int) × (List Int)) : List Blk := Bf30_c12 a0 a1 a2 v12 v13 y.1 y.2
def Jf30_c12 (a0 : Int) (a1 : Int) (a2 : List Kind) (v12 : Int) (v13 : Int) (r11 : Int → (List Int) → (List Int) → Option (Int × Int × Int)) (r : Int × Int × Int) (y : (List Int) × (List Int)) : Prop := f30_c12 a0 a1 a2 v12 v13 r11 y.1 y.2 = some r
theorem Cf30_c12 {r : Int × Int × Int} {a0 : Int} {a1 : Int} {a2 : List Kind} {v12 : Int} {v13 : Int} {r11 : Int → (List Int) → (List Int) → Option (Int × Int × Int)} {g : _ → Option (Int × Int × Int)} (hn : Nat.beq (nid * 1000 + firstRegion b) 12 = true) (hz : Sf30_c12.ok p = true) (h : g (f30_c12 a0 a1 a2 v12 v13 r11) = some r → vc c p nid a st (KHead Sf30_c12 (Yf30_c12 a0 a1 a2 v12 v13) (Xf30_c12 a0 a1 a2 v12 v13) (Jf30_c12 a0 a1 a2 v12 v13 r11 r) K)) (h2 : ∀ (b600'' : List Int) (b601'' : List Int), f30_c12 a0 a1 a2 v12 v13 r11 b600'' b601'' = some r → vc c p nid b (St.mk' Sf30_c12 (Vf30_c12 a0 a1 a2 v12 v13 b600'' b601'') (Bf30_c12 a0 a1 a2 v12 v13 b600'' b601'')) K) (hF : joinK (f30_c12 a0 a1 a2 v12 v13 r11) g = some r) : vc c p nid (.seq a b) st K :=
  vc_cut Sf30_c12 (Yf30_c12 a0 a1 a2 v12 v13) (Xf30_c12 a0 a1 a2 v12 v13) (Jf30_c12 a0 a1 a2 v12 v13 r11 r) hz (h hF) fun y hy => h2 y.1 y.2 hy
theorem Zf30_c12 {r : Int × Int × Int} {a0 : Int} {a1 : Int} {a2 : List Kind} {v12 : Int} {v13 : Int} {r11 : Int → (List Int) → (List Int) → Option (Int × Int × Int)} {b600'' : List Int} {b601'' : List Int} (hF : f30_c12 a0 a1 a2 v12 v13 r11 b600'' b601'' = some r) (h0 : AtH Sf30_c12 st (Vf30_c12 a0 a1 a2 v12 v13 b600'' b601'') (Bf30_c12 a0 a1 a2 v12 v13 b600'' b601'')) : KHead Sf30_c12 (Yf30_c12 a0 a1 a2 v12 v13) (Xf30_c12 a0 a1 a2 v12 v13) (Jf30_c12 a0 a1 a2 v12 v13 r11 r) K .normal st := by
  exact khead (I := (Jf30_c12 a0 a1 a2 v12 v13 r11 r)) (x := (b600'', b601'')) hF h0
def f30_c29 (a0 : Int) (a1 : Int) (a2 : List Kind) (v12 : Int) (v13 : Int) (b600' : List Int) (b601' : List Int) (k2 : (List Int) → (List Int) → Option (Int × Int × Int)) (v14'' : Int) (v15'' : Int) : Option (Int × Int × Int) :=
 (chkI 13 v12).bind fun _ =>
 (chkI 13 v13).bind fun _ =>
 (setN (b600') (Int.toNat v12 * 13 + Int.toNat v13) (v14'')).bind fun x7 =>
 (chkI 13 v12).bind fun _ =>
 (chkI 13 v13).bind fun _ =>
 (setN (b601') (Int.toNat v12 * 13 + Int.toNat v13) (v15'')).bind fun x8 =>
 k2 x7 x8
def Sf30_c29 : Ann := ⟨[0, 1, 2, 10, 11, 12, 13, 14, 15], [600, 601], [], []⟩
def Vf30_c29 (a0 : Int) (a1 : Int) (a2 : List Kind) (v12 : Int) (v13 : Int) (b600' : List Int) (b601' : List Int) (v14'' : Int) (v15'' : Int) : List SV := [.dat (iN a0), .dat (iN a1), .dat (sl_Kind a2), .ptr 600 0, .ptr 601 0, .dat (iN v12), .dat (iN v13), .dat (iN (v14'')), .dat (iN (v15''))]
def Bf30_c29 (a0 : Int) (a1 : Int) (a2 : List Kind) (v12 : Int) (v13 : Int) (b600' : List Int) (b601' : List Int) (v14'' : Int) (v15'' : Int) : List Blk := [.arr (List.map iN (b600')), .arr (List.map iN (b601'))]
def Yf30_c29 (a0 : Int) (a1 : Int) (a2 : List Kind) (v12 : Int) (v13 : Int) (b600' : List Int) (b601' : List Int) (y : Int × Int) : List SV := Vf30_c29 a0 a1 a2 v12 v13 b600' b601' y.1 y.2
def Xf30_c29 (a0 : Int) (a1 : Int) (a2 : List Kind) (v12 : Int) (v13 : Int) (b600' : List Int) (b601' : List Int) (y : Int × Int) : List Blk := Bf30_c29 a0 a1 a2 v12 v13 b600' b601' y.1 y.2
def Jf30_c29 (a0 : Int) (a1 : Int) (a2 : List Kind) (v12 : Int) (v13 : Int) (b600' : List Int) (b601' : List Int) (k2 : (List Int) → (List Int) → Option (Int × Int × Int)) (r : Int × Int × Int) (y : Int × Int) : Prop := f30_c29 a0 a1 a2 v12 v13 b600' b601' k2 y.1 y.2 = some r
theorem Cf30_c29 {r : Int × Int × Int} {a0 : Int} {a1 : Int} {a2 : List Kind} {v12 : Int} {v13 : Int} {b600' : List Int} {b601' : List Int} {k2 : (List Int) → (List Int) → Option (Int × Int × Int)} {g : _ → Option (Int × Int × Int)} (hn : Nat.beq (nid * 1000 + firstRegion b) 29 = true) (hz : Sf30_c29.ok p = true) (h : g (f30_c29 a0 a1 a2 v12 v13 b600' b601' k2) = some r → vc c p nid a st (KHead Sf30_c29 (Yf30_c29 a0 a1 a2 v12 v13 b600' b601') (Xf30_c29 a0 a1 a2 v12 v13 b600' b601') (Jf30_c29 a0 a1 a2 v12 v13 b600' b601' k2 r) K)) (h2 : ∀ (v14'' : Int) (v15'' : Int), f30_c29 a0 a1 a2 v12 v13 b600' b601' k2 v14'' v15'' = some r → vc c p nid b (St.mk' Sf30_c29 (Vf30_c29 a0 a1 a2 v12 v13 b600' b601' v14'' v15'') (Bf30_c29 a0 a1 a2 v12 v13 b600' b601' v14'' v15'')) K) (hF : joinK (f30_c29 a0 a1 a2 v12 v13 b600' b601' k2) g = some r) : vc c p nid (.seq a b) st K :=
  vc_cut Sf30_c29 (Yf30_c29 a0 a1 a2 v12 v13 b600' b601') (Xf30_c29 a0 a1 a2 v12 v13 b600' b601') (Jf30_c29 a0 a1 a2 v12 v13 b600' b601' k2 r) hz (h hF) fun y hy => h2 y.1 y.2 hy
theorem Zf30_c29 {r : Int × Int × Int} {a0 : Int} {a1 : Int} {a2 : List Kind} {v12 : Int} {v13 : Int} {b600' : List Int} {b601' : List Int} {k2 : (List Int) → (List Int) → Option (Int × Int × Int)} {v14'' : Int} {v15'' : Int} (hF : f30_c29 a0 a1 a2 v12 v13 b600' b601' k2 v14'' v15'' = some r) (h0 : AtH Sf30_c29 st (Vf30_c29 a0 a1 a2 v12 v13 b600' b601' v14'' v15'') (Bf30_c29 a0 a1 a2 v12 v13 b600' b601' v14'' v15'')) : KHead Sf30_c29 (Yf30_c29 a0 a1 a2 v12 v13 b600' b601') (Xf30_c29 a0 a1 a2 v12 v13 b600' b601') (Jf30_c29 a0 a1 a2 v12 v13 b600' b601' k2 r) K .normal st := by
  exact khead (I := (Jf30_c29 a0 a1 a2 v12 v13 b600' b601' k2 r)) (x := (v14'', v15'')) hF h0
def f30_24b (r24 : Int → Int → Int → Option (Int × Int × Int)) (a0 : Int) (a1 : Int) (a2 : List Kind) (v12 : Int) (v13 : Int) (b600' : List Int) (b601' : List Int) (k3 : Int → Int → Option (Int × Int × Int)) (v14'' : Int) (v15'' : Int) (v20 : Int) : Option (Int × Int × Int) :=
 bif decide (v20 < v13) then ((chkI 13 v12).bind fun _ =>
 (chkI 13 v20).bind fun _ =>
 (ixN (b600') (Int.toNat v12 * 13 + Int.toNat v20)).bind fun x9 =>
 (chkI 13 v12).bind fun _ =>
 (chkI 13 (W (v13 - v20))).bind fun _ =>
 (ixN (b600') (Int.toNat v12 * 13 + Int.toNat (W (v13 - v20)))).bind fun x10 =>
 (chkI 13 v12).bind fun _ =>
 (chkI 13 v20).bind fun _ =>
 (ixN (b601') (Int.toNat v12 * 13 + Int.toNat v20)).bind fun x11 =>
 (chkI 13 v12).bind fun _ =>
 (chkI 13 (W (v13 - v20))).bind fun _ =>
 (ixN (b601') (Int.toNat v12 * 13 + Int.toNat (W (v13 - v20)))).bind fun x12 =>
 bif decide ((v14'') < (W (x9 + x10))) then (r24 (W (x9 + x10)) (W (x11 + x12)) (W (v20 + (1 : Int))))
 else (bif decide ((W (x9 + x10)) = (v14'')) then (bif decide ((W (x11 + x12)) < (v15'')) then (r24 (W (x9 + x10)) (W (x11 + x12)) (W (v20 + (1 : Int))))
 else (r24 (v14'') (v15'') (W (v20 + (1 : Int)))))
 else (r24 (v14'') (v15'') (W (v20 + (1 : Int))))))
 else (k3 (v14'') (v15''))
def f30_24 (a0 : Int) (a1 : Int) (a2 : List Kind) (v12 : Int) (v13 : Int) (b600' : List Int) (b601' : List Int) (k3 : Int → Int → Option (Int × Int × Int)) : Nat → Int → Int → Int → Option (Int × Int × Int)
  | 0, _, _, _ => none
  | n + 1, v14'', v15'', v20 => f30_24b (f30_24 a0 a1 a2 v12 v13 b600' b601' k3 n) a0 a1 a2 v12 v13 b600' b601' k3 v14'' v15'' v20
def Sf30_24 : Ann := ⟨[0, 1, 2, 10, 11, 12, 13, 14, 15, 20], [600, 601], [], []⟩
def Vf30_24 (a0 : Int) (a1 : Int) (a2 : List Kind) (v12 : Int) (v13 : Int) (b600' : List Int) (b601' : List Int) (v14'' : Int) (v15'' : Int) (v20 : Int) : List SV := [.dat (iN a0), .dat (iN a1), .dat (sl_Kind a2), .ptr 600 0, .ptr 601 0, .dat (iN v12), .dat (iN v13), .dat (iN (v14'')), .dat (iN (v15'')), .dat (iN v20)]
def Bf30_24 (a0 : Int) (a1 : Int) (a2 : List Kind) (v12 : Int) (v13 : Int) (b600' : List Int) (b601' : List Int) (v14'' : Int) (v15'' : Int) (v20 : Int) : List Blk := [.arr (List.map iN (b600')), .arr (List.map iN (b601'))]
def Yf30_24 (a0 : Int) (a1 : Int) (a2 : List Kind) (v12 : Int) (v13 : Int) (b600' : List Int) (b601' : List Int) (y : Nat × Int × Int × Int) : List SV := Vf30_24 a0 a1 a2 v12 v13 b600' b601' y.2.1 y.2.2.1 y.2.2.2
def Xf30_24 (a0 : Int) (a1 : Int) (a2 : List Kind) (v12 : Int) (v13 : Int) (b600' : List Int) (b601' : List Int) (y : Nat × Int × Int × Int) : List Blk := Bf30_24 a0 a1 a2 v12 v13 b600' b601' y.2.1 y.2.2.1 y.2.2.2
def Jf30_24 (a0 : Int) (a1 : Int) (a2 : List Kind) (v12 : Int) (v13 : Int) (b600' : List Int) (b601' : List Int) (k3 : Int → Int → Option (Int × Int × Int)) (r : Int × Int × Int) (y : Nat × Int × Int × Int) : Prop := f30_24 a0 a1 a2 v12 v13 b600' b601' k3 y.1 y.2.1 y.2.2.1 y.2.2.2 = some r
theorem Lf30_24 {r : Int × Int × Int} {a0 : Int} {a1 : Int} {a2 : List Kind} {v12 : Int} {v13 : Int} {b600' : List Int} {b601' : List Int} {k3 : Int → Int → Option (Int × Int × Int)} {fu : Nat} {v14'' : Int} {v15'' : Int} {v20 : Int} (hz : Sf30_24.ok p = true) (h0 : AtH Sf30_24 st (Vf30_24 a0 a1 a2 v12 v13 b600' b601' v14'' v15'' v20) (Bf30_24 a0 a1 a2 v12 v13 b600' b601' v14'' v15'' v20)) (h : ∀ (n : Nat) (v14'' : Int) (v15'' : Int) (v20 : Int), f30_24b (f30_24 a0 a1 a2 v12 v13 b600' b601' k3 n) a0 a1 a2 v12 v13 b600' b601' k3 v14'' v15'' v20 = some r → vc c p nid a (St.mk' Sf30_24 (Vf30_24 a0 a1 a2 v12 v13 b600' b601' v14'' v15'' v20) (Bf30_24 a0 a1 a2 v12 v13 b600' b601' v14'' v15'' v20)) (Kloop Sf30_24 (Yf30_24 a0 a1 a2 v12 v13 b600' b601') (Xf30_24 a0 a1 a2 v12 v13 b600' b601') (Jf30_24 a0 a1 a2 v12 v13 b600' b601' k3 r) Prod.fst (n + 1, v14'', v15'', v20) K)) (hF : f30_24 a0 a1 a2 v12 v13 b600' b601' k3 fu v14'' v15'' v20 = some r) : vc c p nid (.loop a) st K := by
  refine vc_loop Sf30_24 (Yf30_24 a0 a1 a2 v12 v13 b600' b601') (Xf30_24 a0 a1 a2 v12 v13 b600' b601') (Jf30_24 a0 a1 a2 v12 v13 b600' b601' k3 r) Prod.fst hz (kheadL (x := (fu, v14'', v15'', v20)) hF h0) ?_
  rintro ⟨_ | n, v14'', v15'', v20⟩ hI
  · cases hI
  · exact h n v14'' v15'' v20 hI
theorem Mf30_24 {r : Int × Int × Int} {a0 : Int} {a1 : Int} {a2 : List Kind} {v12 : Int} {v13 : Int} {b600' : List Int} {b601' : List Int} {k3 : Int → Int → Option (Int × Int × Int)} {n : Nat} {v14'' : Int} {v15'' : Int} {v20 : Int} {v14''_ : Int} {v15''_ : Int} {v20_ : Int} (hF : f30_24 a0 a1 a2 v12 v13 b600' b601' k3 n v14'' v15'' v20 = some r) (h0 : AtH Sf30_24 st (Vf30_24 a0 a1 a2 v12 v13 b600' b601' v14'' v15'' v20) (Bf30_24 a0 a1 a2 v12 v13 b600' b601' v14'' v15'' v20)) : Kloop Sf30_24 (Yf30_24 a0 a1 a2 v12 v13 b600' b601') (Xf30_24 a0 a1 a2 v12 v13 b600' b601') (Jf30_24 a0 a1 a2 v12 v13 b600' b601' k3 r) Prod.fst (n + 1, v14''_, v15''_, v20_) K .normal st := by
  exact kback (y := (n, v14'', v15'', v20)) hF (Nat.lt_succ_self n) h0
def f30_c23 (a0 : Int) (a1 : Int) (a2 : List Kind) (N : Nat) (v12 : Int) (v13 : Int) (b600' : List Int) (b601' : List Int) (k2 : (List Int) → (List Int) → Option (Int × Int × Int)) (v14' : Int) (v15' : Int) : Option (Int × Int × Int) :=
 joinK (f30_c29 a0 a1 a2 v12 v13 b600' b601' k2) fun k3 =>
 f30_24 a0 a1 a2 v12 v13 b600' b601' k3 N (v14') (v15') (1 : Int)
def Sf30_c23 : Ann := ⟨[0, 1, 2, 10, 11, 12, 13, 14, 15], [600, 601], [], []⟩
def Vf30_c23 (a0 : Int) (a1 : Int) (a2 : List Kind) (v12 : Int) (v13 : Int) (b600' : List Int) (b601' : List Int) (v14' : Int) (v15' : Int) : List SV := [.dat (iN a0), .dat (iN a1), .dat (sl_Kind a2), .ptr 600 0, .ptr 601 0, .dat (iN v12), .dat (iN v13), .dat (iN (v14')), .dat (iN (v15'))]
def Bf30_c23 (a0 : Int) (a1 : Int) (a2 : List Kind) (v12 : Int) (v13 : Int) (b600' : List Int) (b601' : List Int) (v14' : Int) (v15' : Int) : List Blk := [.arr (List.map iN (b600')), .arr (List.map iN (b601'))]
def Yf30_c23 (a0 : Int) (a1 : Int) (a2 : List Kind) (v12 : Int) (v13 : Int) (b600' : List Int) (b601' : List Int) (y : Int × Int) : List SV := Vf30_c23 a0 a1 a2 v12 v13 b600' b601' y.1 y.2
def Xf30_c23 (a0 : Int) (a1 : Int) (a2 : List Kind) (v12 : Int) (v13 : Int) (b600' : List Int) (b601' : List Int) (y : Int × Int) : List Blk := Bf30_c23 a0 a1 a2 v12 v13 b600' b601' y.1 y.2
def Jf30_c23 (a0 : Int) (a1 : Int) (a2 : List Kind) (N : Nat) (v12 : Int) (v13 : Int) (b600' : List Int) (b601' : List Int) (k2 : (List Int) → (List Int) → Option (Int × Int × Int)) (r : Int × Int × Int) (y : Int × Int) : Prop := f30_c23 a0 a1 a2 N v12 v13 b600' b601' k2 y.1 y.2 = some r
theorem Cf30_c23 {r : Int × Int × Int} {a0 : Int} {a1 : Int} {a2 : List Kind} {N : Nat} {v12 : Int} {v13 : Int} {b600' : List Int} {b601' : List Int} {k2 : (List Int) → (List Int) → Option (Int × Int × Int)} {g : _ → Option (Int × Int × Int)} (hn : Nat.beq (nid * 1000 + firstRegion b) 23 = true) (hz : Sf30_c23.ok p = true) (h : g (f30_c23 a0 a1 a2 N v12 v13 b600' b601' k2) = some r → vc c p nid a st (KHead Sf30_c23 (Yf30_c23 a0 a1 a2 v12 v13 b600' b601') (Xf30_c23 a0 a1 a2 v12 v13 b600' b601') (Jf30_c23 a0 a1 a2 N v12 v13 b600' b601' k2 r) K)) (h2 : ∀ (v14' : Int) (v15' : Int), f30_c23 a0 a1 a2 N v12 v13 b600' b601' k2 v14' v15' = some r → vc c p nid b (St.mk' Sf30_c23 (Vf30_c23 a0 a1 a2 v12 v13 b600' b601' v14' v15') (Bf30_c23 a0 a1 a2 v12 v13 b600' b601' v14' v15')) K) (hF : joinK (f30_c23 a0 a1 a2 N v12 v13 b600' b601' k2) g = some r) : vc c p nid (.seq a b) st K :=
  vc_cut Sf30_c23 (Yf30_c23 a0 a1 a2 v12 v13 b600' b601') (Xf30_c23 a0 a1 a2 v12 v13 b600' b601') (Jf30_c23 a0 a1 a2 N v12 v13 b600' b601' k2 r) hz (h hF) fun y hy => h2 y.1 y.2 hy
theorem Zf30_c23 {r : Int × Int × Int} {a0 : Int} {a1 : Int} {a2 : List Kind} {N : Nat} {v12 : Int} {v13 : Int} {b600' : List Int} {b601' : List Int} {k2 : (List Int) → (List Int) → Option (Int × Int × Int)} {v14' : Int} {v15' : Int} (hF : f30_c23 a0 a1 a2 N v12 v13 b600' b601' k2 v14' v15' = some r) (h0 : AtH Sf30_c23 st (Vf30_c23 a0 a1 a2 v12 v13 b600' b601' v14' v15') (Bf30_c23 a0 a1 a2 v12 v13 b600' b601' v14' v15')) : KHead Sf30_c23 (Yf30_c23 a0 a1 a2 v12 v13 b600' b601') (Xf30_c23 a0 a1 a2 v12 v13 b600' b601') (Jf30_c23 a0 a1 a2 N v12 v13 b600' b601' k2 r) K .normal st := by
  exact khead (I := (Jf30_c23 a0 a1 a2 N v12 v13 b600' b601' k2 r)) (x := (v14', v15')) hF h0
def f30_18b (r18 : Int → Int → Int → Option (Int × Int × Int)) (a0 : Int) (a1 : Int) (a2 : List Kind) (v12 : Int) (v13 : Int) (b600' : List Int) (b601' : List Int) (k4 : Int → Int → Option (Int × Int × Int)) (v14' : Int) (v15' : Int) (v17 : Int) : Option (Int × Int × Int) :=
 bif decide (v17 < v12) then ((chkI 13 v17).bind fun _ =>
 (chkI 13 v13).bind fun _ =>
 (ixN (b600') (Int.toNat v17 * 13 + Int.toNat v13)).bind fun x13 =>
 (chkI 13 (W (v12 - v17))).bind fun _ =>
 (chkI 13 v13).bind fun _ =>
 (ixN (b600') (Int.toNat (W (v12 - v17)) * 13 + Int.toNat v13)).bind fun x14 =>
 (chkI 13 v17).bind fun _ =>
 (chkI 13 v13).bind fun _ =>
 (ixN (b601') (Int.toNat v17 * 13 + Int.toNat v13)).bind fun x15 =>
 (chkI 13 (W (v12 - v17))).bind fun _ =>
 (chkI 13 v13).bind fun _ =>
 (ixN (b601') (Int.toNat (W (v12 - v17)) * 13 + Int.toNat v13)).bind fun x16 =>
 bif decide ((v14') < (W (x13 + x14))) then (r18 (W (x13 + x14)) (W (x15 + x16)) (W (v17 + (1 : Int))))
 else (bif decide ((W (x13 + x14)) = (v14')) then (bif decide ((W (x15 + x16)) < (v15')) then (r18 (W (x13 + x14)) (W (x15 + x16)) (W (v17 + (1 : Int))))
 else (r18 (v14') (v15') (W (v17 + (1 : Int)))))
 else (r18 (v14') (v15') (W (v17 + (1 : Int))))))
 else (k4 (v14') (v15'))
def f30_18 (a0 : Int) (a1 : Int) (a2 : List Kind) (v12 : Int) (v13 : Int) (b600' : List Int) (b601' : List Int) (k4 : Int → Int → Option (Int × Int × Int)) : Nat → Int → Int → Int → Option (Int × Int × Int)
  | 0, _, _, _ => none
  | n + 1, v14', v15', v17 => f30_18b (f30_18 a0 a1 a2 v12 v13 b600' b601' k4 n) a0 a1 a2 v12 v13 b600' b601' k4 v14' v15' v17
def Sf30_18 : Ann := ⟨[0, 1, 2, 10, 11, 12, 13, 14, 15, 17], [600, 601], [], []⟩
def Vf30_18 (a0 : Int) (a1 : Int) (a2 : List Kind) (v12 : Int) (v13 : Int) (b600' : List Int) (b601' : List Int) (v14' : Int) (v15' : Int) (v17 : Int) : List SV := [.dat (iN a0), .dat (iN a1), .dat (sl_Kind a2), .ptr 600 0, .ptr 601 0, .dat (iN v12), .dat (iN v13), .dat (iN (v14')), .dat (iN (v15')), .dat (iN v17)]
def Bf30_18 (a0 : Int) (a1 : Int) (a2 : List Kind) (v12 : Int) (v13 : Int) (b600' : List Int) (b601' : List Int) (v14' : Int) (v15' : Int) (v17 : Int) : List Blk := [.arr (List.map iN (b600')), .arr (List.map iN (b601'))]
def Yf30_18 (a0 : Int) (a1 : Int) (a2 : List Kind) (v12 : Int) (v13 : Int) (b600' : List Int) (b601' : List Int) (y : Nat × Int × Int × Int) : List SV := Vf30_18 a0 a1 a2 v12 v13 b600' b601' y.2.1 y.2.2.1 y.2.2.2
def Xf30_18 (a0 : Int) (a1 : Int) (a2 : List Kind) (v12 : Int) (v13 : Int) (b600' : List Int) (b601' : List Int) (y : Nat × Int × Int × Int) : List Blk := Bf30_18 a0 a1 a2 v12 v13 b600' b601' y.2.1 y.2.2.1 y.2.2.2
def Jf30_18 (a0 : Int) (a1 : Int) (a2 : List Kind) (v12 : Int) (v13 : Int) (b600' : List Int) (b601' : List Int) (k4 : Int → Int → Option (Int × Int × Int)) (r : Int × Int × Int) (y : Nat × Int × Int × Int) : Prop := f30_18 a0 a1 a2 v12 v13 b600' b601' k4 y.1 y.2.1 y.2.2.1 y.2.2.2 = some r
theorem Lf30_18 {r : Int × Int × Int} {a0 : Int} {a1 : Int} {a2 : List Kind} {v12 : Int} {v13 : Int} {b600' : List Int} {b601' : List Int} {k4 : Int → Int → Option (Int × Int × Int)} {fu : Nat} {v14' : Int} {v15' : Int} {v17 : Int} (hz : Sf30_18.ok p = true) (h0 : AtH Sf30_18 st (Vf30_18 a0 a1 a2 v12 v13 b600' b601' v14' v15' v17) (Bf30_18 a0 a1 a2 v12 v13 b600' b601' v14' v15' v17)) (h : ∀ (n : Nat) (v14' : Int) (v15' : Int) (v17 : Int), f30_18b (f30_18 a0 a1 a2 v12 v13 b600' b601' k4 n) a0 a1 a2 v12 v13 b600' b601' k4 v14' v15' v17 = some r → vc c p nid a (St.mk' Sf30_18 (Vf30_18 a0 a1 a2 v12 v13 b600' b601' v14' v15' v17) (Bf30_18 a0 a1 a2 v12 v13 b600' b601' v14' v15' v17)) (Kloop Sf30_18 (Yf30_18 a0 a1 a2 v12 v13 b600' b601') (Xf30_18 a0 a1 a2 v12 v13 b600' b601') (Jf30_18 a0 a1 a2 v12 v13 b600' b601' k4 r) Prod.fst (n + 1, v14', v15', v17) K)) (hF : f30_18 a0 a1 a2 v12 v13 b600' b601' k4 fu v14' v15' v17 = some r) : vc c p nid (.loop a) st K := by
  refine vc_loop Sf30_18 (Yf30_18 a0 a1 a2 v12 v13 b600' b601') (Xf30_18 a0 a1 a2 v12 v13 b600' b601') (Jf30_18 a0 a1 a2 v12 v13 b600' b601' k4 r) Prod.fst hz (kheadL (x := (fu, v14', v15', v17)) hF h0) ?_
  rintro ⟨_ | n, v14', v15', v17⟩ hI
  · cases hI
  · exact h n v14' v15' v17 hI
theorem Mf30_18 {r : Int × Int × Int} {a0 : Int} {a1 : Int} {a2 : List Kind} {v12 : Int} {v13 : Int} {b600' : List Int} {b601' : List Int} {k4 : Int → Int → Option (Int × Int × Int)} {n : Nat} {v14' : Int} {v15' : Int} {v17 : Int} {v14'_ : Int} {v15'_ : Int} {v17_ : Int} (hF : f30_18 a0 a1 a2 v12 v13 b600' b601' k4 n v14' v15' v17 = some r) (h0 : AtH Sf30_18 st (Vf30_18 a0 a1 a2 v12 v13 b600' b601' v14' v15' v17) (Bf30_18 a0 a1 a2 v12 v13 b600' b601' v14' v15' v17)) : Kloop Sf30_18 (Yf30_18 a0 a1 a2 v12 v13 b600' b601') (Xf30_18 a0 a1 a2 v12 v13 b600' b601') (Jf30_18 a0 a1 a2 v12 v13 b600' b601' k4 r) Prod.fst (n + 1, v14'_, v15'_, v17_) K .normal st := by
  exact kback (y := (n, v14', v15', v17)) hF (Nat.lt_succ_self n) h0
def f30_c17 (a0 : Int) (a1 : Int) (a2 : List Kind) (N : Nat) (v12 : Int) (v13 : Int) (b600' : List Int) (b601' : List Int) (k2 : (List Int) → (List Int) → Option (Int × Int × Int)) (v14 : Int) (v15 : Int) : Option (Int × Int × Int) :=
 joinK (f30_c23 a0 a1 a2 N v12 v13 b600' b601' k2) fun k4 =>
 f30_18 a0 a1 a2 v12 v13 b600' b601' k4 N v14 v15 (1 : Int)
def Sf30_c17 : Ann := ⟨[0, 1, 2, 10, 11, 12, 13, 14, 15], [600, 601], [], []⟩
def Vf30_c17 (a0 : Int) (a1 : Int) (a2 : List Kind) (v12 : Int) (v13 : Int) (b600' : List Int) (b601' : List Int) (v14 : Int) (v15 : Int) : List SV := [.dat (iN a0), .dat (iN a1), .dat (sl_Kind a2), .ptr 600 0, .ptr 601 0, .dat (iN v12), .dat (iN v13), .dat (iN v14), .dat (iN v15)]
def Bf30_c17 (a0 : Int) (a1 : Int) (a2 : List Kind) (v12 : Int) (v13 : Int) (b600' : List Int) (b601' : List Int) (v14 : Int) (v15 : Int) : List Blk := [.arr (List.map iN (b600')), .arr (List.map iN (b601'))]
def Yf30_c17 (a0 : Int) (a1 : Int) (a2 : List Kind) (v12 : Int) (v13 : Int) (b600' : List Int) (b601' : List Int) (y : Int × Int) : List SV := Vf30_c17 a0 a1 a2 v12 v13 b600' b601' y.1 y.2
def Xf30_c17 (a0 : Int) (a1 : Int) (a2 : List Kind) (v12 : Int) (v13 : Int) (b600' : List Int) (b601' : List Int) (y : Int × Int) : List Blk := Bf30_c17 a0 a1 a2 v12 v13 b600' b601' y.1 y.2
def Jf30_c17 (a0 : Int) (a1 : Int) (a2 : List Kind) (N : Nat) (v12 : Int) (v13 : Int) (b600' : List Int) (b601' : List Int) (k2 : (List Int) → (List Int) → Option (Int × Int × Int)) (r : Int × Int × Int) (y : Int × Int) : Prop := f30_c17 a0 a1 a2 N v12 v13 b600' b601' k2 y.1 y.2 = some r
theorem Cf30_c17 {r : Int × Int × Int} {a0 : Int} {a1 : Int} {a2 : List Kind} {N : Nat} {v12 : Int} {v13 : Int} {b600' : List Int} {b601' : List Int} {k2 : (List Int) → (List Int) → Option (Int × Int × Int)} {g : _ → Option (Int × Int × Int)} (hn : Nat.beq (nid * 1000 + firstRegion b) 17 = true) (hz : Sf30_c17.ok p = true) (h : g (f30_c17 a0 a1 a2 N v12 v13 b600' b601' k2) = some r → vc c p nid a st (KHead Sf30_c17 (Yf30_c17 a0 a1 a2 v12 v13 b600' b601') (Xf30_c17 a0 a1 a2 v12 v13 b600' b601') (Jf30_c17 a0 a1 a2 N v12 v13 b600' b601' k2 r) K)) (h2 : ∀ (v14 : Int) (v15 : Int), f30_c17 a0 a1 a2 N v12 v13 b600' b601' k2 v14 v15 = some r → vc c p nid b (St.mk' Sf30_c17 (Vf30_c17 a0 a1 a2 v12 v13 b600' b601' v14 v15) (Bf30_c17 a0 a1 a2 v12 v13 b600' b601' v14 v15)) K) (hF : joinK (f30_c17 a0 a1 a2 N v12 v13 b600' b601' k2) g = some r) : vc c p nid (.seq a b) st K :=
  vc_cut Sf30_c17 (Yf30_c17 a0 a1 a2 v12 v13 b600' b601') (Xf30_c17 a0 a1 a2 v12 v13 b600' b601') (Jf30_c17 a0 a1 a2 N v12 v13 b600' b601' k2 r) hz (h hF) fun y hy => h2 y.1 y.2 hy
theorem Zf30_c17 {r : Int × Int × Int} {a0 : Int} {a1 : Int} {a2 : List Kind} {N : Nat} {v12 : Int} {v13 : Int} {b600' : List Int} {b601' : List Int} {k2 : (List Int) → (List Int) → Option (Int × Int × Int)} {v14 : Int} {v15 : Int} (hF : f30_c17 a0 a1 a2 N v12 v13 b600' b601' k2 v14 v15 = some r) (h0 : AtH Sf30_c17 st (Vf30_c17 a0 a1 a2 v12 v13 b600' b601' v14 v15) (Bf30_c17 a0 a1 a2 v12 v13 b600' b601' v14 v15)) : KHead Sf30_c17 (Yf30_c17 a0 a1 a2 v12 v13 b600' b601') (Xf30_c17 a0 a1 a2 v12 v13 b600' b601') (Jf30_c17 a0 a1 a2 N v12 v13 b600' b601' k2 r) K .normal st := by
  exact khead (I := (Jf30_c17 a0 a1 a2 N v12 v13 b600' b601' k2 r)) (x := (v14, v15)) hF h0
def f30_11b (r11 : Int → (List Int) → (List Int) → Option (Int × Int × Int)) (a0 : Int) (a1 : Int) (a2 : List Kind) (N : Nat) (v12 : Int) (k1 : (List Int) → (List Int) → Option (Int × Int × Int)) (v13 : Int) (b600' : List Int) (b601' : List Int) : Option (Int × Int × Int) :=
 bif decide (v13 ≤ a1) then (joinK (f30_c12 a0 a1 a2 v12 v13 r11) fun k2 =>
 (f51 N v12 v13 a2).bind fun x6 =>
 joinK (f30_c17 a0 a1 a2 N v12 v13 b600' b601' k2) fun k5 =>
 bif decide ((0 : Int) < x6) then (k5 x6 (1 : Int))
 else (k5 (0 : Int) (0 : Int)))
 else (k1 (b600') (b601'))
def f30_11 (a0 : Int) (a1 : Int) (a2 : List Kind) (N : Nat) (v12 : Int) (k1 : (List Int) → (List Int) → Option (Int × Int × Int)) : Nat → Int → (List Int) → (List Int) → Option (Int × Int × Int)
  | 0, _, _, _ => none
  | n + 1, v13, b600', b601' => f30_11b (f30_11 a0 a1 a2 N v12 k1 n) a0 a1 a2 N v12 k1 v13 b600' b601'
def Sf30_11 : Ann := ⟨[0, 1, 2, 10, 11, 12, 13], [600, 601], [], []⟩
def Vf30_11 (a0 : Int) (a1 : Int) (a2 : List Kind) (v12 : Int) (v13 : Int) (b600' : List Int) (b601' : List Int) : List SV := [.dat (iN a0), .dat (iN a1), .dat (sl_Kind a2), .ptr 600 0, .ptr 601 0, .dat (iN v12), .dat (iN v13)]
def Bf30_11 (a0 : Int) (a1 : Int) (a2 : List Kind) (v12 : Int) (v13 : Int) (b600' : List Int) (b601' : List Int) : List Blk := [.arr (List.map iN (b600')), .arr (List.map iN (b601'))]
def Yf30_11 (a0 : Int) (a1 : Int) (a2 : List Kind) (v12 : Int) (y : Nat × Int × (List Int) × (List Int)) : List SV := Vf30_11 a0 a1 a2 v12 y.2.1 y.2.2.1 y.2.2.2
def Xf30_11 (a0 : Int) (a1 : Int) (a2 : List Kind) (v12 : Int) (y : Nat × Int × (List Int) × (List Int)) : List Blk := Bf30_11 a0 a1 a2 v12 y.2.1 y.2.2.1 y.2.2.2
def Jf30_11 (a0 : Int) (a1 : Int) (a2 : List Kind) (N : Nat) (v12 : Int) (k1 : (List Int) → (List Int) → Option (Int × Int × Int)) (r : Int × Int × Int) (y : Nat × Int × (List Int) × (List Int)) : Prop := f30_11 a0 a1 a2 N v12 k1 y.1 y.2.1 y.2.2.1 y.2.2.2 = some r
theorem Lf30_11 {r : Int × Int × Int} {a0 : Int} {a1 : Int} {a2 : List Kind} {N : Nat} {v12 : Int} {k1 : (List Int) → (List Int) → Option (Int × Int × Int)} {fu : Nat} {v13 : Int} {b600' : List Int} {b601' : List Int} (hz : Sf30_11.ok p = true) (h0 : AtH Sf30_11 st (Vf30_11 a0 a1 a2 v12 v13 b600' b601') (Bf30_11 a0 a1 a2 v12 v13 b600' b601')) (h : ∀ (n : Nat) (v13 : Int) (b600' : List Int) (b601' : List Int), f30_11b (f30_11 a0 a1 a2 N v12 k1 n) a0 a1 a2 N v12 k1 v13 b600' b601' = some r → vc c p nid a (St.mk' Sf30_11 (Vf30_11 a0 a1 a2 v12 v13 b600' b601') (Bf30_11 a0 a1 a2 v12 v13 b600' b601')) (Kloop Sf30_11 (Yf30_11 a0 a1 a2 v12) (Xf30_11 a0 a1 a2 v12) (Jf30_11 a0 a1 a2 N v12 k1 r) Prod.fst (n + 1, v13, b600', b601') K)) (hF : f30_11 a0 a1 a2 N v12 k1 fu v13 b600' b601' = some r) : vc c p nid (.loop a) st K := by
  refine vc_loop Sf30_11 (Yf30_11 a0 a1 a2 v12) (Xf30_11 a0 a1 a2 v12) (Jf30_11 a0 a1 a2 N v12 k1 r) Prod.fst hz (kheadL (x := (fu, v13, b600', b601')) hF h0) ?_
  rintro ⟨_ | n, v13, b600', b601'⟩ hI
  · cases hI
  · exact h n v13 b600' b601' hI
theorem Mf30_11 {r : Int × Int × Int} {a0 : Int} {a1 : Int} {a2 : List Kind} {N : Nat} {v12 : Int} {k1 : (List Int) → (List Int) → Option (Int × Int × Int)} {n : Nat} {v13 : Int} {b600' : List Int} {b601' : List Int} {v13_ : Int} {b600'_ : List Int} {b601'_ : List Int} (hF : f30_11 a0 a1 a2 N v12 k1 n v13 b600' b601' = some r) (h0 : AtH Sf30_11 st (Vf30_11 a0 a1 a2 v12 v13 b600' b601') (Bf30_11 a0 a1 a2 v12 v13 b600' b601')) : Kloop Sf30_11 (Yf30_11 a0 a1 a2 v12) (Xf30_11 a0 a1 a2 v12) (Jf30_11 a0 a1 a2 N v12 k1 r) Prod.fst (n + 1, v13_, b600'_, b601'_) K .normal st := by
  exact kback (y := (n, v13, b600', b601')) hF (Nat.lt_succ_self n) h0
def f30_8b (r8 : Int → (List Int) → (List Int) → Option (Int × Int × Int)) (a0 : Int) (a1 : Int) (a2 : List Kind) (N : Nat) (k0 : (List Int) → (List Int) → Option (Int × Int × Int)) (v12 : Int) (b600 : List Int) (b601 : List Int) : Option (Int × Int × Int) :=
 bif decide (v12 ≤ a0) then (joinK (f30_c9 a0 a1 a2 v12 r8) fun k1 =>
 f30_11 a0 a1 a2 N v12 k1 N (1 : Int) b600 b601)
 else (k0 b600 b601)
def f30_8 (a0 : Int) (a1 : Int) (a2 : List Kind) (N : Nat) (k0 : (List Int) → (List Int) → Option (Int × Int × Int)) : Nat → Int → (List Int) → (List Int) → Option (Int × Int × Int)
  | 0, _, _, _ => none
  | n + 1, v12, b600, b601 => f30_8b (f30_8 a0 a1 a2 N k0 n) a0 a1 a2 N k0 v12 b600 b601
def Sf30_8 : Ann := ⟨[0, 1, 2, 10, 11, 12], [600, 601], [], []⟩
def Vf30_8 (a0 : Int) (a1 : Int) (a2 : List Kind) (v12 : Int) (b600 : List Int) (b601 : List Int) : List SV := [.dat (iN a0), .dat (iN a1), .dat (sl_Kind a2), .ptr 600 0, .ptr 601 0, .dat (iN v12)]
def Bf30_8 (a0 : Int) (a1 : Int) (a2 : List Kind) (v12 : Int) (b600 : List Int) (b601 : List Int) : List Blk := [.arr (List.map iN b600), .arr (List.map iN b601)]
def Yf30_8 (a0 : Int) (a1 : Int) (a2 : List Kind) (y : Nat × Int × (List Int) × (List Int)) : List SV := Vf30_8 a0 a1 a2 y.2.1 y.2.2.1 y.2.2.2
def Xf30_8 (a0 : Int) (a1 : Int) (a2 : List Kind) (y : Nat × Int × (List Int) × (List Int)) : List Blk := Bf30_8 a0 a1 a2 y.2.1 y.2.2.1 y.2.2.2
def Jf30_8 (a0 : Int) (a1 : Int) (a2 : List Kind) (N : Nat) (k0 : (List Int) → (List Int) → Option (Int × Int × Int)) (r : Int × Int × Int) (y : Nat × Int × (List Int) × (List Int)) : Prop := f30_8 a0 a1 a2 N k0 y.1 y.2.1 y.2.2.1 y.2.2.2 = some r
theorem Lf30_8 {r : Int × Int × Int} {a0 : Int} {a1 : Int} {a2 : List Kind} {N : Nat} {k0 : (List Int) → (List Int) → Option (Int × Int × Int)} {fu : Nat} {v12 : Int} {b600 : List Int} {b601 : List Int} (hz : Sf30_8.ok p = true) (h0 : AtH Sf30_8 st (Vf30_8 a0 a1 a2 v12 b600 b601) (Bf30_8 a0 a1 a2 v12 b600 b601)) (h : ∀ (n : Nat) (v12 : Int) (b600 : List Int) (b601 : List Int), f30_8b (f30_8 a0 a1 a2 N k0 n) a0 a1 a2 N k0 v12 b600 b601 = some r → vc c p nid a (St.mk' Sf30_8 (Vf30_8 a0 a1 a2 v12 b600 b601) (Bf30_8 a0 a1 a2 v12 b600 b601)) (Kloop Sf30_8 (Yf30_8 a0 a1 a2) (Xf30_8 a0 a1 a2) (Jf30_8 a0 a1 a2 N k0 r) Prod.fst (n + 1, v12, b600, b601) K)) (hF : f30_8 a0 a1 a2 N k0 fu v12 b600 b601 = some r) : vc c p nid (.loop a) st K := by
  refine vc_loop Sf30_8 (Yf30_8 a0 a1 a2) (Xf30_8 a0 a1 a2) (Jf30_8 a0 a1 a2 N k0 r) Prod.fst hz (kheadL (x := (fu, v12, b600, b601)) hF h0) ?_
  rintro ⟨_ | n, v12, b600, b601⟩ hI
  · cases hI
  · exact h n v12 b600 b601 hI
theorem Mf30_8 {r : Int × Int × Int} {a0 : Int} {a1 : Int} {a2 : List Kind} {N : Nat} {k0 : (List Int) → (List Int) → Option (Int × Int × Int)} {n : Nat} {v12 : Int} {b600 : List Int} {b601 : List Int} {v12_ : Int} {b600_ : List Int} {b601_ : List Int} (hF : f30_8 a0 a1 a2 N k0 n v12 b600 b601 = some r) (h0 : AtH Sf30_8 st (Vf30_8 a0 a1 a2 v12 b600 b601) (Bf30_8 a0 a1 a2 v12 b600 b601)) : Kloop Sf30_8 (Yf30_8 a0 a1 a2) (Xf30_8 a0 a1 a2) (Jf30_8 a0 a1 a2 N k0 r) Prod.fst (n + 1, v12_, b600_, b601_) K .normal st := by
  exact kback (y := (n, v12, b600, b601)) hF (Nat.lt_succ_self n) h0
def f30 (N : Nat) (a0 : Int) (a1 : Int) (a2 : List Kind) : Option (Int × Int × Int) :=
 (f56 N a0 (1 : Int) (12 : Int)).bind fun x1 =>
 bif !x1 then (some ((0 : Int), (0 : Int), (3 : Int)))
 else ((f56 N a1 (1 : Int) (12 : Int)).bind fun x2 =>
 bif !x2 then (some ((0 : Int), (0 : Int), (3 : Int)))
 else ((f50 N a2).bind fun x3 =>
 bif decide (¬ x3 = (0 : Int)) then (some ((0 : Int), (0 : Int), x3))
 else (joinK (f30_c30 a0 a1) fun k0 =>
 f30_8 a0 a1 a2 N k0 N (1 : Int) (List.replicate 169 (0 : Int)) (List.replicate 169 (0 : Int)))))
def G30 (ds : List D) (d : D) : Prop := ∃ (N : Nat) (a0 : Int) (a1 : Int) (a2 : List Kind) (r : Int × Int × Int), ds = [iN a0, iN a1, sl_Kind a2] ∧ f30 N a0 a1 a2 = some r ∧ d = .tup [iN r.1, iN r.2.1, iN r.2.2]
theorem G30.step {N : Nat} {a0 : Int} {a1 : Int} {a2 : List Kind} {ρ : Type} {A : (Int × Int × Int) → Option ρ} {q : ρ} {ds : List D} {K : D → Prop} (hd : ds = [iN a0, iN a1, sl_Kind a2]) (h : ∀ r, A r = some q → K (.tup [iN r.1, iN r.2.1, iN r.2.2])) (hF : (f30 N a0 a1 a2).bind A = some q) : ∃ d, G30 ds d ∧ K d := by
  obtain ⟨r, hr, hA⟩ := bind_some hF
  exact ⟨_, ⟨N, a0, a1, a2, r, hd, hr, rfl⟩, h r hA⟩
set_option maxRecDepth 20000 in
set_option maxHeartbeats 4000000 in
theorem P30 : PureOK Try.prog 30 G30 := by
  refine pure_of_vc (c := mkCtx tyTree [(56, true, purePg [[0], [0], [0]] G56), (51, true, purePg [[0], [0], [3]] G51), (50, true, purePg [[3]] G50)]) rfl tyOK (ctx_cons (callable Try.func56 rfl rfl) P56 (ctx_cons (callable Try.func51 rfl rfl) P51 (ctx_cons (callable Try.func50 rfl rfl) P50 (ctx_nil)))) [[0], [0], [0]] 3 Try.func30 rfl rfl (by decide) (by kernel_rfl) ?_
  rintro ds d ⟨N, a0, a1, a2, r, rfl, hF, rfl⟩ hok
  clear hok
  refine ⟨rfl, ?_⟩
  show vc _ _ _ _ ⟨[(0, .dat (iN a0)), (1, .dat (iN a1)), (2, .dat (sl_Kind a2))], []⟩ _
  unfold f30 at hF
  repeat' (first
    | ((with_reducible refine q0 _ _ ?_); clear Q q0 q1 q2)
    | ((with_reducible refine q1 _ _ _ _ ?_); clear Q q0 q1 q2)
    | ((with_reducible refine q2 _ _ _ ?_); clear Q q0 q1 q2)
    | ((with_reducible refine seq_op ?hx (fun Q q0 q1 q2 => ?_)); (case hx => exact rfl); conv => whnf)
    | ((with_reducible refine draw_op ?hx (fun Q q0 q1 q2 => ?_)); (case hx => exact rfl); conv => whnf)
    | ((with_reducible refine seq_op0 ?hx (fun Q q0 q1 q2 => ?_)); (case hx => exact rfl); conv => whnf)
    | ((with_reducible refine draw_op0 ?hx (fun Q q0 q1 q2 => ?_)); (case hx => exact rfl); conv => whnf)
    | ((with_reducible refine seq_off ?hx ?_); (case hx => exact rfl))
    | ((with_reducible refine seq_off0 ?hx ?_); (case hx => exact rfl))
    | ((with_reducible refine draw_off ?hx ?_); (case hx => exact rfl))
    | ((with_reducible refine draw_off0 ?hx ?_); (case hx => exact rfl))
    | ((with_reducible refine seq_id ?_); (first | ((refine seq_opK rfl ?hy (fun Q q0 q1 q2 => ?_)); (case hy => first | assumption | exact notT (by assumption) | exact rfl); conv => whnf) | ((refine seq_offK rfl ?hy ?_); (case hy => first | assumption | exact notF (by assumption) | exact rfl)) | ((refine seq_opK0 rfl ?hy (fun Q q0 q1 q2 => ?_)); (case hy => first | assumption | exact notT (by assumption) | exact rfl); conv => whnf) | ((refine seq_offK0 rfl ?hy ?_); (case hy => first | assumption | exact notF (by assumption) | exact rfl)) | (revert hF; (with_reducible refine seq_opF ?hx ?_ ?_); (case hx => exact rfl); (intro hc hF Q q0 q1 q2; conv => whnf); rotate_left; (intro hc hF); rotate_right) | (revert hF; (with_reducible refine seq_opN ?hx ?_ ?_); (case hx => exact rfl); (intro hc hF); rotate_left; (intro hc hF Q q0 q1 q2; conv => whnf); rotate_right) | (revert hF; (with_reducible refine seq_opF0 ?hx ?_ ?_); (case hx => exact rfl); (intro hc hF Q q0 q1 q2; conv => whnf); rotate_left; (intro hc hF); rotate_right) | (revert hF; (with_reducible refine seq_opN0 ?hx ?_ ?_); (case hx => exact rfl); (intro hc hF); rotate_left; (intro hc hF Q q0 q1 q2; conv => whnf); rotate_right)))
    | ((with_reducible refine cond_id ?_); (first | ((refine condKT rfl ?hy ?_); (case hy => first | assumption | exact notT (by assumption) | exact rfl)) | ((refine condKF rfl ?hy ?_); (case hy => first | assumption | exact notF (by assumption) | exact rfl)) | (revert hF; (with_reducible refine condF ?hx ?_ ?_); (case hx => exact rfl); all_goals (intro hc hF))))
    | ((with_reducible refine seq_nil ?_); (first | ((with_reducible refine hR _ ?_); clear R hR) | ((with_reducible refine hL _ ?_); clear L hL)))
    | ((with_reducible refine draw_nil ?_); (with_reducible refine hR _ _ ?hx ?_); (case hx => kernel_rfl); (first | clear R hR | clear hR))
    | ((with_reducible refine int_step ?_); conv => whnf)
    | with_reducible refine vc_block ?_
    | with_reducible refine vc_skip ?_
    | with_reducible refine vc_ret ?_
    | with_reducible refine vc_exit ?_
    | ((with_reducible refine vc_seqN [30, 9, 12, 29, 23, 17] ?hx ?_); (case hx => exact rfl))
    | (with_reducible refine vc_region (fun R hR => ?_))
    | ((with_reducible refine vc_draw ?hx (fun R hR => ?_)); (case hx => exact rfl))
    | fail
    | (revert hF; (refine Cf30_c30 rfl rfl ?_ ?_); (intro hF); rotate_left; (intro b600 b601 hF; unfold f30_c30 at hF); rotate_right)
    | exact Zf30_c30 hF ⟨_, rfl, rfl, rfl, rfl⟩
    | (revert hF; (refine Cf30_c9 rfl rfl ?_ ?_); (intro hF); rotate_left; (intro b600' b601' hF; unfold f30_c9 at hF); rotate_right)
    | exact Zf30_c9 hF ⟨_, rfl, rfl, rfl, rfl⟩
    | (revert hF; (refine Cf30_c12 rfl rfl ?_ ?_); (intro hF); rotate_left; (intro b600'' b601'' hF; unfold f30_c12 at hF); rotate_right)
    | exact Zf30_c12 hF ⟨_, rfl, rfl, rfl, rfl⟩
    | (revert hF; (refine Cf30_c29 rfl rfl ?_ ?_); (intro hF); rotate_left; (intro v14'' v15'' hF; unfold f30_c29 at hF); rotate_right)
    | exact Zf30_c29 hF ⟨_, rfl, rfl, rfl, rfl⟩
    | (revert hF; (refine Lf30_24 rfl ⟨_, rfl, rfl, rfl, rfl⟩ ?_); intro n v14'' v15'' v20 hF; unfold f30_24b at hF)
    | exact Mf30_24 hF ⟨_, rfl, rfl, rfl, rfl⟩
    | (revert hF; (refine Cf30_c23 rfl rfl ?_ ?_); (intro hF); rotate_left; (intro v14' v15' hF; unfold f30_c23 at hF); rotate_right)
    | exact Zf30_c23 hF ⟨_, rfl, rfl, rfl, rfl⟩
    | (revert hF; (refine Lf30_18 rfl ⟨_, rfl, rfl, rfl, rfl⟩ ?_); intro n v14' v15' v17 hF; unfold f30_18b at hF)
    | exact Mf30_18 hF ⟨_, rfl, rfl, rfl, rfl⟩
    | (revert hF; (refine Cf30_c17 rfl rfl ?_ ?_); (intro hF); rotate_left; (intro v14 v15 hF; unfold f30_c17 at hF); rotate_right)
    | exact Zf30_c17 hF ⟨_, rfl, rfl, rfl, rfl⟩
    | (revert hF; (refine Lf30_11 rfl ⟨_, rfl, rfl, rfl, rfl⟩ ?_); intro n v13 b600' b601' hF; unfold f30_11b at hF)
    | exact Mf30_11 hF ⟨_, rfl, rfl, rfl, rfl⟩
    | (revert hF; (refine Lf30_8 rfl ⟨_, rfl, rfl, rfl, rfl⟩ ?_); intro n v12 b600 b601 hF; unfold f30_8b at hF)
    | exact Mf30_8 hF ⟨_, rfl, rfl, rfl, rfl⟩
    | (revert hF; (with_reducible refine G50.step ?hx ?_); (case hx => exact rfl); intro v hF; conv => whnf)
    | (revert hF; (with_reducible refine G51.step ?hx ?_); (case hx => exact rfl); intro v hF; conv => whnf)
    | (revert hF; (with_reducible refine G56.step ?hx ?_); (case hx => exact rfl); intro v hF; conv => whnf)
    | ((with_reducible refine zeroA_step (List.map iN (List.replicate 169 (0 : Int))) ?hx ?_); (case hx => exact ⟨by kernel_rfl, by kernel_rfl⟩); conv => whnf)
    | ((with_reducible refine zeroD_step (List.map iN (List.replicate 169 (0 : Int))) ?hx ?_); (case hx => (unfold zeroD; kernel_rfl)); conv => whnf)
    | ((with_reducible refine chkI_go hF ?_); (clear hF; intro hF; conv => whnf))
    | ((with_reducible have hG := ixN_fact hF); clear hF; (first | (refine ixN_one hG (by (try simp only [W]); omega) (fun x hF => ?_)) | (refine ixN_agg hG (fun _ => rfl) (by (try simp only [W]); omega) (fun x hF => ?_))); clear hG; conv => whnf)
    | ((with_reducible have hG := setN_fact hF); clear hF; (first | (refine setN_one hG (by (try simp only [W]); omega) rfl rfl (fun q hF => ?_)) | (refine setN_agg hG (fun _ => rfl) (by (try simp only [W]); omega) rfl rfl (fun q hF => ?_))); clear hG; conv => whnf)
    | with_reducible refine k_seq_ret ?_
    | with_reducible refine k_seq_exit ?_
    | with_reducible refine k_blk ?_
    | with_reducible refine k_blk_ret ?_
    | with_reducible refine k_blk_here ?_
    | ((with_reducible refine k_blk_out ?hx ?_); (case hx => exact rfl))
    | with_reducible refine k_loop_ret ?_
    | with_reducible refine k_loop_exit ?_
    | ((refine row_all ?hn ?_); (case hn => first | exact rfl | (simp; done) | (simp; omega)); conv => whnf)
    | ((with_reducible refine le_step ?hn ?_); (case hn => first | exact rfl | assumption | omega); conv => whnf)
    | ((refine ⟨?hx, ?_⟩); (case hx => exact ⟨rfl, Nat.le_of_ble_eq_true rfl, rfl⟩); conv => whnf)
    | ((with_reducible refine ex_step ?_); conv => whnf)
    | ((with_reducible refine both_T ?hx ?_); (case hx => first | exact rfl | assumption | exact notT (by assumption)); conv => whnf)
    | ((with_reducible refine both_F ?hx ?_); (case hx => first | exact rfl | assumption | exact notF (by assumption)); conv => whnf)
    | (revert hF; (with_reducible refine ite_step ?_ ?_) <;> (intro hc hF; conv => whnf))
    | ((with_reducible refine vc_condT ?hx ?_); (case hx => exact rfl))
    | ((with_reducible refine vc_condF ?hx ?_); (case hx => exact rfl))
    | (show retD _ _ _ _ _ _; conv => whnf)
    | ((refine ⟨?hx, trivial⟩); (case hx => (cases hF; exact rfl)))
    | ((refine ⟨?hx, ?_⟩); (case hx => decide); conv => whnf)
    | ((with_reducible refine k_seq ?_))
    | (have hF : (none : Option _) = some _ := hF; cases hF))
end
end Go.Vc

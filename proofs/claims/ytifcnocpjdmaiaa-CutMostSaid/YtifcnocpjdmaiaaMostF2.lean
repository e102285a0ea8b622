/-
  A library for proofs about Go functions by symbolic evaluation, and plain Lean functions that the walked Go functions compute (written by a program of this claim).
-/
import Derived.Test.YtifcnocpjdmaiaaMostF1
import Derived.Test.YtifcnocpjdmaiaaVc2
namespace Go.Vc
open Go.Proofs
set_option linter.unusedVariables false
set_option linter.unnecessarySimpa false
set_option linter.unusedSimpArgs false
section
variable {c : Ctx} {p nid : Nat} {a b : Code} {st : St} {K : Ex → St → Prop}
/- f31: tusche/cut.Lay -/
def f31_c10 (a0 : Int) (a1 : Int) (N : Nat) (b101 : List Choice) (b703_2 : List Label) : Option (Layout × Int) :=
 (f68 N (Label.mk (0 : Int) (0 : Int) a0 a1) a0 a1 b101 b703_2).bind fun x3 =>
 some ((Layout.mk a0 a1 x3), (0 : Int))
def Sf31_c10 : Ann := ⟨[0, 1, 6, 10, 11], [0, 404, 703, 800, 90500, 404000101], [(.cell 703 2, 90500, 50, 4)], []⟩
def Vf31_c10 (a0 : Int) (a1 : Int) (b101 : List Choice) (b703_2 : List Label) : List SV := [.dat (iN a0), .dat (iN a1), .ptr 0 0, .ptr 703 0, .ptr 800 0]
def Bf31_c10 (a0 : Int) (a1 : Int) (b101 : List Choice) (b703_2 : List Label) : List Blk := [.box [.dat (iN (0 : Int)), .dat (iN (0 : Int)), .nil], .box [.ptr 404000101 0], .box [.dat (iN a0), .dat (iN a1), .rs 90500 (List.length b703_2)], .box [.fn 68 [] [.ptr 404 0, .ptr 703 0, .ptr 800 0]], .row 50 4 (List.map Label.d b703_2), .arr (flatC Choice.d b101)]
def Yf31_c10 (a0 : Int) (a1 : Int) (b101 : List Choice) (y : (List Label)) : List SV := Vf31_c10 a0 a1 b101 y
def Xf31_c10 (a0 : Int) (a1 : Int) (b101 : List Choice) (y : (List Label)) : List Blk := Bf31_c10 a0 a1 b101 y
def Jf31_c10 (a0 : Int) (a1 : Int) (N : Nat) (b101 : List Choice) (r : Layout × Int) (y : (List Label)) : Prop := f31_c10 a0 a1 N b101 y = some r
def V2f31_c10 (a0 : Int) (a1 : Int) (b101 : List Choice) (b703_2 : List Label) (m0 : Nat) : List SV := [.dat (iN a0), .dat (iN a1), .ptr 0 0, .ptr 703 0, .ptr 800 0]
def B2f31_c10 (a0 : Int) (a1 : Int) (b101 : List Choice) (b703_2 : List Label) (m0 : Nat) : List Blk := [.box [.dat (iN (0 : Int)), .dat (iN (0 : Int)), .nil], .box [.ptr 404000101 0], .box [.dat (iN a0), .dat (iN a1), .rs 90500 m0], .box [.fn 68 [] [.ptr 404 0, .ptr 703 0, .ptr 800 0]], .row 50 4 (List.map Label.d b703_2), .arr (flatC Choice.d b101)]
theorem Cf31_c10 {r : Layout × Int} {a0 : Int} {a1 : Int} {N : Nat} {b101 : List Choice} {g : _ → Option (Layout × Int)} (hn : Nat.beq (nid * 1000 + firstRegion b) 10 = true) (hz : Sf31_c10.ok p = true) (h : g (f31_c10 a0 a1 N b101) = some r → vc c p nid a st (KHead Sf31_c10 (Yf31_c10 a0 a1 b101) (Xf31_c10 a0 a1 b101) (Jf31_c10 a0 a1 N b101 r) K)) (h2 : ∀ (b703_2 : List Label), f31_c10 a0 a1 N b101 b703_2 = some r → vc c p nid b (St.mk' Sf31_c10 (Vf31_c10 a0 a1 b101 b703_2) (Bf31_c10 a0 a1 b101 b703_2)) K) (hF : joinK (f31_c10 a0 a1 N b101) g = some r) : vc c p nid (.seq a b) st K :=
  vc_cut Sf31_c10 (Yf31_c10 a0 a1 b101) (Xf31_c10 a0 a1 b101) (Jf31_c10 a0 a1 N b101 r) hz (h hF) fun y hy => h2 y hy
theorem Zf31_c10 {r : Layout × Int} {a0 : Int} {a1 : Int} {N : Nat} {b101 : List Choice} {b703_2 : List Label} {m0 : Nat} (hF : f31_c10 a0 a1 N b101 b703_2 = some r) (h0 : AtH Sf31_c10 st (V2f31_c10 a0 a1 b101 b703_2 m0) (B2f31_c10 a0 a1 b101 b703_2 m0)) (em0 : m0 = List.length b703_2) : KHead Sf31_c10 (Yf31_c10 a0 a1 b101) (Xf31_c10 a0 a1 b101) (Jf31_c10 a0 a1 N b101 r) K .normal st := by
  subst em0; exact khead (I := (Jf31_c10 a0 a1 N b101 r)) (x := (b703_2)) hF h0
def f31_i403_c21 (a0 : Int) (a1 : Int) (N : Nat) (b101 : List Choice) : Option (Layout × Int) :=
 (chkI 13 a0).bind fun _ =>
 (chkI 13 a1).bind fun _ =>
 (ixN b101 (Int.toNat a0 * 13 + Int.toNat a1)).bind fun x2 =>
 bif decide ((10 : Int) < x2.labels) then (some ((Layout.mk (0 : Int) (0 : Int) []), (16 : Int)))
 else (joinK (f31_c10 a0 a1 N b101) fun k0 =>
 k0 [])
def Sf31_i403_c21 : Ann := ⟨[7], [0, 404000101], [], []⟩
def Vf31_i403_c21 (b101 : List Choice) : List SV := [.ptr 404000101 0]
def Bf31_i403_c21 (b101 : List Choice) : List Blk := [.box [.dat (iN (0 : Int)), .dat (iN (0 : Int)), .nil], .arr (flatC Choice.d b101)]
def Yf31_i403_c21 (y : (List Choice)) : List SV := Vf31_i403_c21 y
def Xf31_i403_c21 (y : (List Choice)) : List Blk := Bf31_i403_c21 y
def Jf31_i403_c21 (a0 : Int) (a1 : Int) (N : Nat) (r : Layout × Int) (y : (List Choice)) : Prop := f31_i403_c21 a0 a1 N y = some r
theorem Cf31_i403_c21 {r : Layout × Int} {a0 : Int} {a1 : Int} {N : Nat} {g : _ → Option (Layout × Int)} (hn : Nat.beq (nid * 1000 + firstRegion b) 404000000021 = true) (hz : Sf31_i403_c21.ok p = true) (h : g (f31_i403_c21 a0 a1 N) = some r → vc c p nid a st (KHead Sf31_i403_c21 Yf31_i403_c21 Xf31_i403_c21 (Jf31_i403_c21 a0 a1 N r) K)) (h2 : ∀ (b101 : List Choice), f31_i403_c21 a0 a1 N b101 = some r → vc c p nid b (St.mk' Sf31_i403_c21 (Vf31_i403_c21 b101) (Bf31_i403_c21 b101)) K) (hF : joinK (f31_i403_c21 a0 a1 N) g = some r) : vc c p nid (.seq a b) st K :=
  vc_cut Sf31_i403_c21 Yf31_i403_c21 Xf31_i403_c21 (Jf31_i403_c21 a0 a1 N r) hz (h hF) fun y hy => h2 y hy
theorem Zf31_i403_c21 {r : Layout × Int} {a0 : Int} {a1 : Int} {N : Nat} {b101 : List Choice} (hF : f31_i403_c21 a0 a1 N b101 = some r) (h0 : AtH Sf31_i403_c21 st (Vf31_i403_c21 b101) (Bf31_i403_c21 b101)) : KHead Sf31_i403_c21 Yf31_i403_c21 Xf31_i403_c21 (Jf31_i403_c21 a0 a1 N r) K .normal st := by
  exact khead (I := (Jf31_i403_c21 a0 a1 N r)) (x := (b101)) hF h0
def f31_i403_c4 (a0 : Int) (a1 : Int) (a2 : List Kind) (v8 : Int) (r3 : Int → (List Choice) → Option (Layout × Int)) (b101' : List Choice) : Option (Layout × Int) :=
 r3 (W (v8 + (1 : Int))) (b101')
def Sf31_i403_c4 : Ann := ⟨[0, 1, 2, 7, 8], [0, 404000101], [], []⟩
def Vf31_i403_c4 (a0 : Int) (a1 : Int) (a2 : List Kind) (v8 : Int) (b101' : List Choice) : List SV := [.dat (iN a0), .dat (iN a1), .dat (sl_Kind a2), .ptr 404000101 0, .dat (iN v8)]
def Bf31_i403_c4 (a0 : Int) (a1 : Int) (a2 : List Kind) (v8 : Int) (b101' : List Choice) : List Blk := [.box [.dat (iN (0 : Int)), .dat (iN (0 : Int)), .nil], .arr (flatC Choice.d (b101'))]
def Yf31_i403_c4 (a0 : Int) (a1 : Int) (a2 : List Kind) (v8 : Int) (y : (List Choice)) : List SV := Vf31_i403_c4 a0 a1 a2 v8 y
def Xf31_i403_c4 (a0 : Int) (a1 : Int) (a2 : List Kind) (v8 : Int) (y : (List Choice)) : List Blk := Bf31_i403_c4 a0 a1 a2 v8 y
def Jf31_i403_c4 (a0 : Int) (a1 : Int) (a2 : List Kind) (v8 : Int) (r3 : Int → (List Choice) → Option (Layout × Int)) (r : Layout × Int) (y : (List Choice)) : Prop := f31_i403_c4 a0 a1 a2 v8 r3 y = some r
theorem Cf31_i403_c4 {r : Layout × Int} {a0 : Int} {a1 : Int} {a2 : List Kind} {v8 : Int} {r3 : Int → (List Choice) → Option (Layout × Int)} {g : _ → Option (Layout × Int)} (hn : Nat.beq (nid * 1000 + firstRegion b) 404000000004 = true) (hz : Sf31_i403_c4.ok p = true) (h : g (f31_i403_c4 a0 a1 a2 v8 r3) = some r → vc c p nid a st (KHead Sf31_i403_c4 (Yf31_i403_c4 a0 a1 a2 v8) (Xf31_i403_c4 a0 a1 a2 v8) (Jf31_i403_c4 a0 a1 a2 v8 r3 r) K)) (h2 : ∀ (b101' : List Choice), f31_i403_c4 a0 a1 a2 v8 r3 b101' = some r → vc c p nid b (St.mk' Sf31_i403_c4 (Vf31_i403_c4 a0 a1 a2 v8 b101') (Bf31_i403_c4 a0 a1 a2 v8 b101')) K) (hF : joinK (f31_i403_c4 a0 a1 a2 v8 r3) g = some r) : vc c p nid (.seq a b) st K :=
  vc_cut Sf31_i403_c4 (Yf31_i403_c4 a0 a1 a2 v8) (Xf31_i403_c4 a0 a1 a2 v8) (Jf31_i403_c4 a0 a1 a2 v8 r3 r) hz (h hF) fun y hy => h2 y hy
theorem Zf31_i403_c4 {r : Layout × Int} {a0 : Int} {a1 : Int} {a2 : List Kind} {v8 : Int} {r3 : Int → (List Choice) → Option (Layout × Int)} {b101' : List Choice} (hF : f31_i403_c4 a0 a1 a2 v8 r3 b101' = some r) (h0 : AtH Sf31_i403_c4 st (Vf31_i403_c4 a0 a1 a2 v8 b101') (Bf31_i403_c4 a0 a1 a2 v8 b101')) : KHead Sf31_i403_c4 (Yf31_i403_c4 a0 a1 a2 v8) (Xf31_i403_c4 a0 a1 a2 v8) (Jf31_i403_c4 a0 a1 a2 v8 r3 r) K .normal st := by
  exact khead (I := (Jf31_i403_c4 a0 a1 a2 v8 r3 r)) (x := (b101')) hF h0
def f31_i403_c7 (a0 : Int) (a1 : Int) (a2 : List Kind) (v8 : Int) (v9 : Int) (r6 : Int → (List Choice) → Option (Layout × Int)) (b101'' : List Choice) : Option (Layout × Int) :=
 r6 (W (v9 + (1 : Int))) (b101'')
def Sf31_i403_c7 : Ann := ⟨[0, 1, 2, 7, 8, 9], [0, 404000101], [], []⟩
def Vf31_i403_c7 (a0 : Int) (a1 : Int) (a2 : List Kind) (v8 : Int) (v9 : Int) (b101'' : List Choice) : List SV := [.dat (iN a0), .dat (iN a1), .dat (sl_Kind a2), .ptr 404000101 0, .dat (iN v8), .dat (iN v9)]
def Bf31_i403_c7 (a0 : Int) (a1 : Int) (a2 : List Kind) (v8 : Int) (v9 : Int) (b101'' : List Choice) : List Blk := [.box [.dat (iN (0 : Int)), .dat (iN (0 : Int)), .nil], .arr (flatC Choice.d (b101''))]
def Yf31_i403_c7 (a0 : Int) (a1 : Int) (a2 : List Kind) (v8 : Int) (v9 : Int) (y : (List Choice)) : List SV := Vf31_i403_c7 a0 a1 a2 v8 v9 y
def Xf31_i403_c7 (a0 : Int) (a1 : Int) (a2 : List Kind) (v8 : Int) (v9 : Int) (y : (List Choice)) : List Blk := Bf31_i403_c7 a0 a1 a2 v8 v9 y
def Jf31_i403_c7 (a0 : Int) (a1 : Int) (a2 : List Kind) (v8 : Int) (v9 : Int) (r6 : Int → (List Choice) → Option (Layout × Int)) (r : Layout × Int) (y : (List Choice)) : Prop := f31_i403_c7 a0 a1 a2 v8 v9 r6 y = some r
theorem Cf31_i403_c7 {r : Layout × Int} {a0 : Int} {a1 : Int} {a2 : List Kind} {v8 : Int} {v9 : Int} {r6 : Int → (List Choice) → Option (Layout × Int)} {g : _ → Option (Layout × Int)} (hn : Nat.beq (nid * 1000 + firstRegion b) 404000000007 = true) (hz : Sf31_i403_c7.ok p = true) (h : g (f31_i403_c7 a0 a1 a2 v8 v9 r6) = some r → vc c p nid a st (KHead Sf31_i403_c7 (Yf31_i403_c7 a0 a1 a2 v8 v9) (Xf31_i403_c7 a0 a1 a2 v8 v9) (Jf31_i403_c7 a0 a1 a2 v8 v9 r6 r) K)) (h2 : ∀ (b101'' : List Choice), f31_i403_c7 a0 a1 a2 v8 v9 r6 b101'' = some r → vc c p nid b (St.mk' Sf31_i403_c7 (Vf31_i403_c7 a0 a1 a2 v8 v9 b101'') (Bf31_i403_c7 a0 a1 a2 v8 v9 b101'')) K) (hF : joinK (f31_i403_c7 a0 a1 a2 v8 v9 r6) g = some r) : vc c p nid (.seq a b) st K :=
  vc_cut Sf31_i403_c7 (Yf31_i403_c7 a0 a1 a2 v8 v9) (Xf31_i403_c7 a0 a1 a2 v8 v9) (Jf31_i403_c7 a0 a1 a2 v8 v9 r6 r) hz (h hF) fun y hy => h2 y hy
theorem Zf31_i403_c7 {r : Layout × Int} {a0 : Int} {a1 : Int} {a2 : List Kind} {v8 : Int} {v9 : Int} {r6 : Int → (List Choice) → Option (Layout × Int)} {b101'' : List Choice} (hF : f31_i403_c7 a0 a1 a2 v8 v9 r6 b101'' = some r) (h0 : AtH Sf31_i403_c7 st (Vf31_i403_c7 a0 a1 a2 v8 v9 b101'') (Bf31_i403_c7 a0 a1 a2 v8 v9 b101'')) : KHead Sf31_i403_c7 (Yf31_i403_c7 a0 a1 a2 v8 v9) (Xf31_i403_c7 a0 a1 a2 v8 v9) (Jf31_i403_c7 a0 a1 a2 v8 v9 r6 r) K .normal st := by
  exact khead (I := (Jf31_i403_c7 a0 a1 a2 v8 v9 r6 r)) (x := (b101'')) hF h0
def f31_i403_18b (r18 : Int → (List Choice) → Option (Layout × Int)) (a0 : Int) (a1 : Int) (a2 : List Kind) (N : Nat) (v8 : Int) (v9 : Int) (k3 : (List Choice) → Option (Layout × Int)) (v15 : Int) (b101'''' : List Choice) : Option (Layout × Int) :=
 bif decide (v15 < v9) then ((chkI 13 v8).bind fun _ =>
 (chkI 13 v15).bind fun _ =>
 (ixN (b101'''') (Int.toNat v8 * 13 + Int.toNat v15)).bind fun x4 =>
 (chkI 13 v8).bind fun _ =>
 (chkI 13 (W (v9 - v15))).bind fun _ =>
 (ixN (b101'''') (Int.toNat v8 * 13 + Int.toNat (W (v9 - v15)))).bind fun x5 =>
 (ixN (b101'''') (Int.toNat v8 * 13 + Int.toNat v9)).bind fun x6 =>
 (f75 N (Choice.mk (W (x4.worth + x5.worth)) (W (x4.labels + x5.labels)) false (Cut.mk false v15)) x6).bind fun x7 =>
 bif x7 then ((setN (b101'''') (Int.toNat v8 * 13 + Int.toNat v9) (Choice.mk (W (x4.worth + x5.worth)) (W (x4.labels + x5.labels)) false (Cut.mk false v15))).bind fun x8 =>
 r18 (W (v15 + (1 : Int))) x8)
 else (r18 (W (v15 + (1 : Int))) (b101'''')))
 else (k3 (b101''''))
def f31_i403_18 (a0 : Int) (a1 : Int) (a2 : List Kind) (N : Nat) (v8 : Int) (v9 : Int) (k3 : (List Choice) → Option (Layout × Int)) : Nat → Int → (List Choice) → Option (Layout × Int)
  | 0, _, _ => none
  | n + 1, v15, b101'''' => f31_i403_18b (f31_i403_18 a0 a1 a2 N v8 v9 k3 n) a0 a1 a2 N v8 v9 k3 v15 b101''''
def Sf31_i403_18 : Ann := ⟨[0, 1, 2, 7, 8, 9, 13, 15], [0, 404000101, 404000806], [], []⟩
def Vf31_i403_18 (a0 : Int) (a1 : Int) (a2 : List Kind) (v8 : Int) (v9 : Int) (v15 : Int) (b101'''' : List Choice) : List SV := [.dat (iN a0), .dat (iN a1), .dat (sl_Kind a2), .ptr 404000101 0, .dat (iN v8), .dat (iN v9), .fn 74 [] [.ptr 404000806 0], .dat (iN v15)]
def Bf31_i403_18 (a0 : Int) (a1 : Int) (a2 : List Kind) (v8 : Int) (v9 : Int) (v15 : Int) (b101'''' : List Choice) : List Blk := [.box [.dat (iN (0 : Int)), .dat (iN (0 : Int)), .nil], .arr (flatC Choice.d (b101'''')), .box [.ptr 404000101 (0 + Int.toNat v8 * 65 + Int.toNat v9 * 5)]]
def Yf31_i403_18 (a0 : Int) (a1 : Int) (a2 : List Kind) (v8 : Int) (v9 : Int) (y : Nat × Int × (List Choice)) : List SV := Vf31_i403_18 a0 a1 a2 v8 v9 y.2.1 y.2.2
def Xf31_i403_18 (a0 : Int) (a1 : Int) (a2 : List Kind) (v8 : Int) (v9 : Int) (y : Nat × Int × (List Choice)) : List Blk := Bf31_i403_18 a0 a1 a2 v8 v9 y.2.1 y.2.2
def Jf31_i403_18 (a0 : Int) (a1 : Int) (a2 : List Kind) (N : Nat) (v8 : Int) (v9 : Int) (k3 : (List Choice) → Option (Layout × Int)) (r : Layout × Int) (y : Nat × Int × (List Choice)) : Prop := f31_i403_18 a0 a1 a2 N v8 v9 k3 y.1 y.2.1 y.2.2 = some r
theorem Lf31_i403_18 {r : Layout × Int} {a0 : Int} {a1 : Int} {a2 : List Kind} {N : Nat} {v8 : Int} {v9 : Int} {k3 : (List Choice) → Option (Layout × Int)} {fu : Nat} {v15 : Int} {b101'''' : List Choice} (hz : Sf31_i403_18.ok p = true) (h0 : AtH Sf31_i403_18 st (Vf31_i403_18 a0 a1 a2 v8 v9 v15 b101'''') (Bf31_i403_18 a0 a1 a2 v8 v9 v15 b101'''')) (h : ∀ (n : Nat) (v15 : Int) (b101'''' : List Choice), f31_i403_18b (f31_i403_18 a0 a1 a2 N v8 v9 k3 n) a0 a1 a2 N v8 v9 k3 v15 b101'''' = some r → vc c p nid a (St.mk' Sf31_i403_18 (Vf31_i403_18 a0 a1 a2 v8 v9 v15 b101'''') (Bf31_i403_18 a0 a1 a2 v8 v9 v15 b101'''')) (Kloop Sf31_i403_18 (Yf31_i403_18 a0 a1 a2 v8 v9) (Xf31_i403_18 a0 a1 a2 v8 v9) (Jf31_i403_18 a0 a1 a2 N v8 v9 k3 r) Prod.fst (n + 1, v15, b101'''') K)) (hF : f31_i403_18 a0 a1 a2 N v8 v9 k3 fu v15 b101'''' = some r) : vc c p nid (.loop a) st K := by
  refine vc_loop Sf31_i403_18 (Yf31_i403_18 a0 a1 a2 v8 v9) (Xf31_i403_18 a0 a1 a2 v8 v9) (Jf31_i403_18 a0 a1 a2 N v8 v9 k3 r) Prod.fst hz (kheadL (x := (fu, v15, b101'''')) hF h0) ?_
  rintro ⟨_ | n, v15, b101''''⟩ hI
  · cases hI
  · exact h n v15 b101'''' hI
theorem Mf31_i403_18 {r : Layout × Int} {a0 : Int} {a1 : Int} {a2 : List Kind} {N : Nat} {v8 : Int} {v9 : Int} {k3 : (List Choice) → Option (Layout × Int)} {n : Nat} {v15 : Int} {b101'''' : List Choice} {v15_ : Int} {b101''''_ : List Choice} (hF : f31_i403_18 a0 a1 a2 N v8 v9 k3 n v15 b101'''' = some r) (h0 : AtH Sf31_i403_18 st (Vf31_i403_18 a0 a1 a2 v8 v9 v15 b101'''') (Bf31_i403_18 a0 a1 a2 v8 v9 v15 b101'''')) : Kloop Sf31_i403_18 (Yf31_i403_18 a0 a1 a2 v8 v9) (Xf31_i403_18 a0 a1 a2 v8 v9) (Jf31_i403_18 a0 a1 a2 N v8 v9 k3 r) Prod.fst (n + 1, v15_, b101''''_) K .normal st := by
  exact kback (y := (n, v15, b101'''')) hF (Nat.lt_succ_self n) h0
def f31_i403_c17 (a0 : Int) (a1 : Int) (a2 : List Kind) (N : Nat) (v8 : Int) (v9 : Int) (k3 : (List Choice) → Option (Layout × Int)) (b101''' : List Choice) : Option (Layout × Int) :=
 f31_i403_18 a0 a1 a2 N v8 v9 k3 N (1 : Int) (b101''')
def Sf31_i403_c17 : Ann := ⟨[0, 1, 2, 7, 8, 9, 13], [0, 404000101, 404000806], [], []⟩
def Vf31_i403_c17 (a0 : Int) (a1 : Int) (a2 : List Kind) (v8 : Int) (v9 : Int) (b101''' : List Choice) : List SV := [.dat (iN a0), .dat (iN a1), .dat (sl_Kind a2), .ptr 404000101 0, .dat (iN v8), .dat (iN v9), .fn 74 [] [.ptr 404000806 0]]
def Bf31_i403_c17 (a0 : Int) (a1 : Int) (a2 : List Kind) (v8 : Int) (v9 : Int) (b101''' : List Choice) : List Blk := [.box [.dat (iN (0 : Int)), .dat (iN (0 : Int)), .nil], .arr (flatC Choice.d (b101''')), .box [.ptr 404000101 (0 + Int.toNat v8 * 65 + Int.toNat v9 * 5)]]
def Yf31_i403_c17 (a0 : Int) (a1 : Int) (a2 : List Kind) (v8 : Int) (v9 : Int) (y : (List Choice)) : List SV := Vf31_i403_c17 a0 a1 a2 v8 v9 y
def Xf31_i403_c17 (a0 : Int) (a1 : Int) (a2 : List Kind) (v8 : Int) (v9 : Int) (y : (List Choice)) : List Blk := Bf31_i403_c17 a0 a1 a2 v8 v9 y
def Jf31_i403_c17 (a0 : Int) (a1 : Int) (a2 : List Kind) (N : Nat) (v8 : Int) (v9 : Int) (k3 : (List Choice) → Option (Layout × Int)) (r : Layout × Int) (y : (List Choice)) : Prop := f31_i403_c17 a0 a1 a2 N v8 v9 k3 y = some r
theorem Cf31_i403_c17 {r : Layout × Int} {a0 : Int} {a1 : Int} {a2 : List Kind} {N : Nat} {v8 : Int} {v9 : Int} {k3 : (List Choice) → Option (Layout × Int)} {g : _ → Option (Layout × Int)} (hn : Nat.beq (nid * 1000 + firstRegion b) 404000000017 = true) (hz : Sf31_i403_c17.ok p = true) (h : g (f31_i403_c17 a0 a1 a2 N v8 v9 k3) = some r → vc c p nid a st (KHead Sf31_i403_c17 (Yf31_i403_c17 a0 a1 a2 v8 v9) (Xf31_i403_c17 a0 a1 a2 v8 v9) (Jf31_i403_c17 a0 a1 a2 N v8 v9 k3 r) K)) (h2 : ∀ (b101''' : List Choice), f31_i403_c17 a0 a1 a2 N v8 v9 k3 b101''' = some r → vc c p nid b (St.mk' Sf31_i403_c17 (Vf31_i403_c17 a0 a1 a2 v8 v9 b101''') (Bf31_i403_c17 a0 a1 a2 v8 v9 b101''')) K) (hF : joinK (f31_i403_c17 a0 a1 a2 N v8 v9 k3) g = some r) : vc c p nid (.seq a b) st K :=
  vc_cut Sf31_i403_c17 (Yf31_i403_c17 a0 a1 a2 v8 v9) (Xf31_i403_c17 a0 a1 a2 v8 v9) (Jf31_i403_c17 a0 a1 a2 N v8 v9 k3 r) hz (h hF) fun y hy => h2 y hy
theorem Zf31_i403_c17 {r : Layout × Int} {a0 : Int} {a1 : Int} {a2 : List Kind} {N : Nat} {v8 : Int} {v9 : Int} {k3 : (List Choice) → Option (Layout × Int)} {b101''' : List Choice} (hF : f31_i403_c17 a0 a1 a2 N v8 v9 k3 b101''' = some r) (h0 : AtH Sf31_i403_c17 st (Vf31_i403_c17 a0 a1 a2 v8 v9 b101''') (Bf31_i403_c17 a0 a1 a2 v8 v9 b101''')) : KHead Sf31_i403_c17 (Yf31_i403_c17 a0 a1 a2 v8 v9) (Xf31_i403_c17 a0 a1 a2 v8 v9) (Jf31_i403_c17 a0 a1 a2 N v8 v9 k3 r) K .normal st := by
  exact khead (I := (Jf31_i403_c17 a0 a1 a2 N v8 v9 k3 r)) (x := (b101''')) hF h0
def f31_i403_14b (r14 : Int → (List Choice) → Option (Layout × Int)) (a0 : Int) (a1 : Int) (a2 : List Kind) (N : Nat) (v8 : Int) (v9 : Int) (k4 : (List Choice) → Option (Layout × Int)) (v14 : Int) (b101''' : List Choice) : Option (Layout × Int) :=
 bif decide (v14 < v8) then ((chkI 13 v14).bind fun _ =>
 (chkI 13 v9).bind fun _ =>
 (ixN (b101''') (Int.toNat v14 * 13 + Int.toNat v9)).bind fun x9 =>
 (chkI 13 (W (v8 - v14))).bind fun _ =>
 (chkI 13 v9).bind fun _ =>
 (ixN (b101''') (Int.toNat (W (v8 - v14)) * 13 + Int.toNat v9)).bind fun x10 =>
 (ixN (b101''') (Int.toNat v8 * 13 + Int.toNat v9)).bind fun x11 =>
 (f75 N (Choice.mk (W (x9.worth + x10.worth)) (W (x9.labels + x10.labels)) false (Cut.mk true v14)) x11).bind fun x12 =>
 bif x12 then ((setN (b101''') (Int.toNat v8 * 13 + Int.toNat v9) (Choice.mk (W (x9.worth + x10.worth)) (W (x9.labels + x10.labels)) false (Cut.mk true v14))).bind fun x13 =>
 r14 (W (v14 + (1 : Int))) x13)
 else (r14 (W (v14 + (1 : Int))) (b101''')))
 else (k4 (b101'''))
def f31_i403_14 (a0 : Int) (a1 : Int) (a2 : List Kind) (N : Nat) (v8 : Int) (v9 : Int) (k4 : (List Choice) → Option (Layout × Int)) : Nat → Int → (List Choice) → Option (Layout × Int)
  | 0, _, _ => none
  | n + 1, v14, b101''' => f31_i403_14b (f31_i403_14 a0 a1 a2 N v8 v9 k4 n) a0 a1 a2 N v8 v9 k4 v14 b101'''
def Sf31_i403_14 : Ann := ⟨[0, 1, 2, 7, 8, 9, 13, 14], [0, 404000101, 404000806], [], []⟩
def Vf31_i403_14 (a0 : Int) (a1 : Int) (a2 : List Kind) (v8 : Int) (v9 : Int) (v14 : Int) (b101''' : List Choice) : List SV := [.dat (iN a0), .dat (iN a1), .dat (sl_Kind a2), .ptr 404000101 0, .dat (iN v8), .dat (iN v9), .fn 74 [] [.ptr 404000806 0], .dat (iN v14)]
def Bf31_i403_14 (a0 : Int) (a1 : Int) (a2 : List Kind) (v8 : Int) (v9 : Int) (v14 : Int) (b101''' : List Choice) : List Blk := [.box [.dat (iN (0 : Int)), .dat (iN (0 : Int)), .nil], .arr (flatC Choice.d (b101''')), .box [.ptr 404000101 (0 + Int.toNat v8 * 65 + Int.toNat v9 * 5)]]
def Yf31_i403_14 (a0 : Int) (a1 : Int) (a2 : List Kind) (v8 : Int) (v9 : Int) (y : Nat × Int × (List Choice)) : List SV := Vf31_i403_14 a0 a1 a2 v8 v9 y.2.1 y.2.2
def Xf31_i403_14 (a0 : Int) (a1 : Int) (a2 : List Kind) (v8 : Int) (v9 : Int) (y : Nat × Int × (List Choice)) : List Blk := Bf31_i403_14 a0 a1 a2 v8 v9 y.2.1 y.2.2
def Jf31_i403_14 (a0 : Int) (a1 : Int) (a2 : List Kind) (N : Nat) (v8 : Int) (v9 : Int) (k4 : (List Choice) → Option (Layout × Int)) (r : Layout × Int) (y : Nat × Int × (List Choice)) : Prop := f31_i403_14 a0 a1 a2 N v8 v9 k4 y.1 y.2.1 y.2.2 = some r
theorem Lf31_i403_14 {r : Layout × Int} {a0 : Int} {a1 : Int} {a2 : List Kind} {N : Nat} {v8 : Int} {v9 : Int} {k4 : (List Choice) → Option (Layout × Int)} {fu : Nat} {v14 : Int} {b101''' : List Choice} (hz : Sf31_i403_14.ok p = true) (h0 : AtH Sf31_i403_14 st (Vf31_i403_14 a0 a1 a2 v8 v9 v14 b101''') (Bf31_i403_14 a0 a1 a2 v8 v9 v14 b101''')) (h : ∀ (n : Nat) (v14 : Int) (b101''' : List Choice), f31_i403_14b (f31_i403_14 a0 a1 a2 N v8 v9 k4 n) a0 a1 a2 N v8 v9 k4 v14 b101''' = some r → vc c p nid a (St.mk' Sf31_i403_14 (Vf31_i403_14 a0 a1 a2 v8 v9 v14 b101''') (Bf31_i403_14 a0 a1 a2 v8 v9 v14 b101''')) (Kloop Sf31_i403_14 (Yf31_i403_14 a0 a1 a2 v8 v9) (Xf31_i403_14 a0 a1 a2 v8 v9) (Jf31_i403_14 a0 a1 a2 N v8 v9 k4 r) Prod.fst (n + 1, v14, b101''') K)) (hF : f31_i403_14 a0 a1 a2 N v8 v9 k4 fu v14 b101''' = some r) : vc c p nid (.loop a) st K := by
  refine vc_loop Sf31_i403_14 (Yf31_i403_14 a0 a1 a2 v8 v9) (Xf31_i403_14 a0 a1 a2 v8 v9) (Jf31_i403_14 a0 a1 a2 N v8 v9 k4 r) Prod.fst hz (kheadL (x := (fu, v14, b101''')) hF h0) ?_
  rintro ⟨_ | n, v14, b101'''⟩ hI
  · cases hI
  · exact h n v14 b101''' hI
theorem Mf31_i403_14 {r : Layout × Int} {a0 : Int} {a1 : Int} {a2 : List Kind} {N : Nat} {v8 : Int} {v9 : Int} {k4 : (List Choice) → Option (Layout × Int)} {n : Nat} {v14 : Int} {b101''' : List Choice} {v14_ : Int} {b101'''_ : List Choice} (hF : f31_i403_14 a0 a1 a2 N v8 v9 k4 n v14 b101''' = some r) (h0 : AtH Sf31_i403_14 st (Vf31_i403_14 a0 a1 a2 v8 v9 v14 b101''') (Bf31_i403_14 a0 a1 a2 v8 v9 v14 b101''')) : Kloop Sf31_i403_14 (Yf31_i403_14 a0 a1 a2 v8 v9) (Xf31_i403_14 a0 a1 a2 v8 v9) (Jf31_i403_14 a0 a1 a2 N v8 v9 k4 r) Prod.fst (n + 1, v14_, b101'''_) K .normal st := by
  exact kback (y := (n, v14, b101''')) hF (Nat.lt_succ_self n) h0
def f31_i403_c12 (a0 : Int) (a1 : Int) (a2 : List Kind) (N : Nat) (v8 : Int) (v9 : Int) (k3 : (List Choice) → Option (Layout × Int)) (b101'' : List Choice) : Option (Layout × Int) :=
 joinK (f31_i403_c17 a0 a1 a2 N v8 v9 k3) fun k4 =>
 f31_i403_14 a0 a1 a2 N v8 v9 k4 N (1 : Int) (b101'')
def Sf31_i403_c12 : Ann := ⟨[0, 1, 2, 7, 8, 9, 10], [0, 404000101, 404000806], [], []⟩
def Vf31_i403_c12 (a0 : Int) (a1 : Int) (a2 : List Kind) (v8 : Int) (v9 : Int) (b101'' : List Choice) : List SV := [.dat (iN a0), .dat (iN a1), .dat (sl_Kind a2), .ptr 404000101 0, .dat (iN v8), .dat (iN v9), .ptr 404000806 0]
def Bf31_i403_c12 (a0 : Int) (a1 : Int) (a2 : List Kind) (v8 : Int) (v9 : Int) (b101'' : List Choice) : List Blk := [.box [.dat (iN (0 : Int)), .dat (iN (0 : Int)), .nil], .arr (flatC Choice.d (b101'')), .box [.ptr 404000101 (0 + Int.toNat v8 * 65 + Int.toNat v9 * 5)]]
def Yf31_i403_c12 (a0 : Int) (a1 : Int) (a2 : List Kind) (v8 : Int) (v9 : Int) (y : (List Choice)) : List SV := Vf31_i403_c12 a0 a1 a2 v8 v9 y
def Xf31_i403_c12 (a0 : Int) (a1 : Int) (a2 : List Kind) (v8 : Int) (v9 : Int) (y : (List Choice)) : List Blk := Bf31_i403_c12 a0 a1 a2 v8 v9 y
def Jf31_i403_c12 (a0 : Int) (a1 : Int) (a2 : List Kind) (N : Nat) (v8 : Int) (v9 : Int) (k3 : (List Choice) → Option (Layout × Int)) (r : Layout × Int) (y : (List Choice)) : Prop := f31_i403_c12 a0 a1 a2 N v8 v9 k3 y = some r
theorem Cf31_i403_c12 {r : Layout × Int} {a0 : Int} {a1 : Int} {a2 : List Kind} {N : Nat} {v8 : Int} {v9 : Int} {k3 : (List Choice) → Option (Layout × Int)} {g : _ → Option (Layout × Int)} (hn : Nat.beq (nid * 1000 + firstRegion b) 404000000012 = true) (hz : Sf31_i403_c12.ok p = true) (h : g (f31_i403_c12 a0 a1 a2 N v8 v9 k3) = some r → vc c p nid a st (KHead Sf31_i403_c12 (Yf31_i403_c12 a0 a1 a2 v8 v9) (Xf31_i403_c12 a0 a1 a2 v8 v9) (Jf31_i403_c12 a0 a1 a2 N v8 v9 k3 r) K)) (h2 : ∀ (b101'' : List Choice), f31_i403_c12 a0 a1 a2 N v8 v9 k3 b101'' = some r → vc c p nid b (St.mk' Sf31_i403_c12 (Vf31_i403_c12 a0 a1 a2 v8 v9 b101'') (Bf31_i403_c12 a0 a1 a2 v8 v9 b101'')) K) (hF : joinK (f31_i403_c12 a0 a1 a2 N v8 v9 k3) g = some r) : vc c p nid (.seq a b) st K :=
  vc_cut Sf31_i403_c12 (Yf31_i403_c12 a0 a1 a2 v8 v9) (Xf31_i403_c12 a0 a1 a2 v8 v9) (Jf31_i403_c12 a0 a1 a2 N v8 v9 k3 r) hz (h hF) fun y hy => h2 y hy
theorem Zf31_i403_c12 {r : Layout × Int} {a0 : Int} {a1 : Int} {a2 : List Kind} {N : Nat} {v8 : Int} {v9 : Int} {k3 : (List Choice) → Option (Layout × Int)} {b101'' : List Choice} (hF : f31_i403_c12 a0 a1 a2 N v8 v9 k3 b101'' = some r) (h0 : AtH Sf31_i403_c12 st (Vf31_i403_c12 a0 a1 a2 v8 v9 b101'') (Bf31_i403_c12 a0 a1 a2 v8 v9 b101'')) : KHead Sf31_i403_c12 (Yf31_i403_c12 a0 a1 a2 v8 v9) (Xf31_i403_c12 a0 a1 a2 v8 v9) (Jf31_i403_c12 a0 a1 a2 N v8 v9 k3 r) K .normal st := by
  exact khead (I := (Jf31_i403_c12 a0 a1 a2 N v8 v9 k3 r)) (x := (b101'')) hF h0
def f31_i403_6b (r6 : Int → (List Choice) → Option (Layout × Int)) (a0 : Int) (a1 : Int) (a2 : List Kind) (N : Nat) (v8 : Int) (k2 : (List Choice) → Option (Layout × Int)) (v9 : Int) (b101' : List Choice) : Option (Layout × Int) :=
 bif decide (v9 ≤ a1) then (joinK (f31_i403_c7 a0 a1 a2 v8 v9 r6) fun k3 =>
 (chkI 13 v8).bind fun _ =>
 (chkI 13 v9).bind fun _ =>
 joinK (f31_i403_c12 a0 a1 a2 N v8 v9 k3) fun k5 =>
 (f49 N v8 v9 a2).bind fun x14 =>
 bif decide ((0 : Int) < x14.1) then ((setN (b101') (Int.toNat v8 * 13 + Int.toNat v9) (Choice.mk x14.1 (1 : Int) true (Cut.mk false (0 : Int)))).bind fun x15 =>
 k5 x15)
 else (k5 (b101')))
 else (k2 (b101'))
def f31_i403_6 (a0 : Int) (a1 : Int) (a2 : List Kind) (N : Nat) (v8 : Int) (k2 : (List Choice) → Option (Layout × Int)) : Nat → Int → (List Choice) → Option (Layout × Int)
  | 0, _, _ => none
  | n + 1, v9, b101' => f31_i403_6b (f31_i403_6 a0 a1 a2 N v8 k2 n) a0 a1 a2 N v8 k2 v9 b101'
def Sf31_i403_6 : Ann := ⟨[0, 1, 2, 7, 8, 9], [0, 404000101], [], []⟩
def Vf31_i403_6 (a0 : Int) (a1 : Int) (a2 : List Kind) (v8 : Int) (v9 : Int) (b101' : List Choice) : List SV := [.dat (iN a0), .dat (iN a1), .dat (sl_Kind a2), .ptr 404000101 0, .dat (iN v8), .dat (iN v9)]
def Bf31_i403_6 (a0 : Int) (a1 : Int) (a2 : List Kind) (v8 : Int) (v9 : Int) (b101' : List Choice) : List Blk := [.box [.dat (iN (0 : Int)), .dat (iN (0 : Int)), .nil], .arr (flatC Choice.d (b101'))]
def Yf31_i403_6 (a0 : Int) (a1 : Int) (a2 : List Kind) (v8 : Int) (y : Nat × Int × (List Choice)) : List SV := Vf31_i403_6 a0 a1 a2 v8 y.2.1 y.2.2
def Xf31_i403_6 (a0 : Int) (a1 : Int) (a2 : List Kind) (v8 : Int) (y : Nat × Int × (List Choice)) : List Blk := Bf31_i403_6 a0 a1 a2 v8 y.2.1 y.2.2
def Jf31_i403_6 (a0 : Int) (a1 : Int) (a2 : List Kind) (N : Nat) (v8 : Int) (k2 : (List Choice) → Option (Layout × Int)) (r : Layout × Int) (y : Nat × Int × (List Choice)) : Prop := f31_i403_6 a0 a1 a2 N v8 k2 y.1 y.2.1 y.2.2 = some r
theorem Lf31_i403_6 {r : Layout × Int} {a0 : Int} {a1 : Int} {a2 : List Kind} {N : Nat} {v8 : Int} {k2 : (List Choice) → Option (Layout × Int)} {fu : Nat} {v9 : Int} {b101' : List Choice} (hz : Sf31_i403_6.ok p = true) (h0 : AtH Sf31_i403_6 st (Vf31_i403_6 a0 a1 a2 v8 v9 b101') (Bf31_i403_6 a0 a1 a2 v8 v9 b101')) (h : ∀ (n : Nat) (v9 : Int) (b101' : List Choice), f31_i403_6b (f31_i403_6 a0 a1 a2 N v8 k2 n) a0 a1 a2 N v8 k2 v9 b101' = some r → vc c p nid a (St.mk' Sf31_i403_6 (Vf31_i403_6 a0 a1 a2 v8 v9 b101') (Bf31_i403_6 a0 a1 a2 v8 v9 b101')) (Kloop Sf31_i403_6 (Yf31_i403_6 a0 a1 a2 v8) (Xf31_i403_6 a0 a1 a2 v8) (Jf31_i403_6 a0 a1 a2 N v8 k2 r) Prod.fst (n + 1, v9, b101') K)) (hF : f31_i403_6 a0 a1 a2 N v8 k2 fu v9 b101' = some r) : vc c p nid (.loop a) st K := by
  refine vc_loop Sf31_i403_6 (Yf31_i403_6 a0 a1 a2 v8) (Xf31_i403_6 a0 a1 a2 v8) (Jf31_i403_6 a0 a1 a2 N v8 k2 r) Prod.fst hz (kheadL (x := (fu, v9, b101')) hF h0) ?_
  rintro ⟨_ | n, v9, b101'⟩ hI
  · cases hI
  · exact h n v9 b101' hI
theorem Mf31_i403_6 {r : Layout × Int} {a0 : Int} {a1 : Int} {a2 : List Kind} {N : Nat} {v8 : Int} {k2 : (List Choice) → Option (Layout × Int)} {n : Nat} {v9 : Int} {b101' : List Choice} {v9_ : Int} {b101'_ : List Choice} (hF : f31_i403_6 a0 a1 a2 N v8 k2 n v9 b101' = some r) (h0 : AtH Sf31_i403_6 st (Vf31_i403_6 a0 a1 a2 v8 v9 b101') (Bf31_i403_6 a0 a1 a2 v8 v9 b101')) : Kloop Sf31_i403_6 (Yf31_i403_6 a0 a1 a2 v8) (Xf31_i403_6 a0 a1 a2 v8) (Jf31_i403_6 a0 a1 a2 N v8 k2 r) Prod.fst (n + 1, v9_, b101'_) K .normal st := by
  exact kback (y := (n, v9, b101')) hF (Nat.lt_succ_self n) h0
def f31_i403_3b (r3 : Int → (List Choice) → Option (Layout × Int)) (a0 : Int) (a1 : Int) (a2 : List Kind) (N : Nat) (k1 : (List Choice) → Option (Layout × Int)) (v8 : Int) (b101 : List Choice) : Option (Layout × Int) :=
 bif decide (v8 ≤ a0) then (joinK (f31_i403_c4 a0 a1 a2 v8 r3) fun k2 =>
 f31_i403_6 a0 a1 a2 N v8 k2 N (1 : Int) b101)
 else (k1 b101)
def f31_i403_3 (a0 : Int) (a1 : Int) (a2 : List Kind) (N : Nat) (k1 : (List Choice) → Option (Layout × Int)) : Nat → Int → (List Choice) → Option (Layout × Int)
  | 0, _, _ => none
  | n + 1, v8, b101 => f31_i403_3b (f31_i403_3 a0 a1 a2 N k1 n) a0 a1 a2 N k1 v8 b101
def Sf31_i403_3 : Ann := ⟨[0, 1, 2, 7, 8], [0, 404000101], [], []⟩
def Vf31_i403_3 (a0 : Int) (a1 : Int) (a2 : List Kind) (v8 : Int) (b101 : List Choice) : List SV := [.dat (iN a0), .dat (iN a1), .dat (sl_Kind a2), .ptr 404000101 0, .dat (iN v8)]
def Bf31_i403_3 (a0 : Int) (a1 : Int) (a2 : List Kind) (v8 : Int) (b101 : List Choice) : List Blk := [.box [.dat (iN (0 : Int)), .dat (iN (0 : Int)), .nil], .arr (flatC Choice.d b101)]
def Yf31_i403_3 (a0 : Int) (a1 : Int) (a2 : List Kind) (y : Nat × Int × (List Choice)) : List SV := Vf31_i403_3 a0 a1 a2 y.2.1 y.2.2
def Xf31_i403_3 (a0 : Int) (a1 : Int) (a2 : List Kind) (y : Nat × Int × (List Choice)) : List Blk := Bf31_i403_3 a0 a1 a2 y.2.1 y.2.2
def Jf31_i403_3 (a0 : Int) (a1 : Int) (a2 : List Kind) (N : Nat) (k1 : (List Choice) → Option (Layout × Int)) (r : Layout × Int) (y : Nat × Int × (List Choice)) : Prop := f31_i403_3 a0 a1 a2 N k1 y.1 y.2.1 y.2.2 = some r
theorem Lf31_i403_3 {r : Layout × Int} {a0 : Int} {a1 : Int} {a2 : List Kind} {N : Nat} {k1 : (List Choice) → Option (Layout × Int)} {fu : Nat} {v8 : Int} {b101 : List Choice} (hz : Sf31_i403_3.ok p = true) (h0 : AtH Sf31_i403_3 st (Vf31_i403_3 a0 a1 a2 v8 b101) (Bf31_i403_3 a0 a1 a2 v8 b101)) (h : ∀ (n : Nat) (v8 : Int) (b101 : List Choice), f31_i403_3b (f31_i403_3 a0 a1 a2 N k1 n) a0 a1 a2 N k1 v8 b101 = some r → vc c p nid a (St.mk' Sf31_i403_3 (Vf31_i403_3 a0 a1 a2 v8 b101) (Bf31_i403_3 a0 a1 a2 v8 b101)) (Kloop Sf31_i403_3 (Yf31_i403_3 a0 a1 a2) (Xf31_i403_3 a0 a1 a2) (Jf31_i403_3 a0 a1 a2 N k1 r) Prod.fst (n + 1, v8, b101) K)) (hF : f31_i403_3 a0 a1 a2 N k1 fu v8 b101 = some r) : vc c p nid (.loop a) st K := by
  refine vc_loop Sf31_i403_3 (Yf31_i403_3 a0 a1 a2) (Xf31_i403_3 a0 a1 a2) (Jf31_i403_3 a0 a1 a2 N k1 r) Prod.fst hz (kheadL (x := (fu, v8, b101)) hF h0) ?_
  rintro ⟨_ | n, v8, b101⟩ hI
  · cases hI
  · exact h n v8 b101 hI
theorem Mf31_i403_3 {r : Layout × Int} {a0 : Int} {a1 : Int} {a2 : List Kind} {N : Nat} {k1 : (List Choice) → Option (Layout × Int)} {n : Nat} {v8 : Int} {b101 : List Choice} {v8_ : Int} {b101_ : List Choice} (hF : f31_i403_3 a0 a1 a2 N k1 n v8 b101 = some r) (h0 : AtH Sf31_i403_3 st (Vf31_i403_3 a0 a1 a2 v8 b101) (Bf31_i403_3 a0 a1 a2 v8 b101)) : Kloop Sf31_i403_3 (Yf31_i403_3 a0 a1 a2) (Xf31_i403_3 a0 a1 a2) (Jf31_i403_3 a0 a1 a2 N k1 r) Prod.fst (n + 1, v8_, b101_) K .normal st := by
  exact kback (y := (n, v8, b101)) hF (Nat.lt_succ_self n) h0
def f31 (N : Nat) (a0 : Int) (a1 : Int) (a2 : List Kind) : Option (Layout × Int) :=
 (f66 N a0 a1 a2).bind fun x1 =>
 bif decide (¬ x1 = (0 : Int)) then (some ((Layout.mk (0 : Int) (0 : Int) []), x1))
 else (joinK (f31_i403_c21 a0 a1 N) fun k1 =>
 f31_i403_3 a0 a1 a2 N k1 N (1 : Int) (List.replicate 169 (Choice.mk (0 : Int) (0 : Int) false (Cut.mk false (0 : Int)))))
def G31 (ds : List D) (d : D) : Prop := ∃ (N : Nat) (a0 : Int) (a1 : Int) (a2 : List Kind) (r : Layout × Int), ds = [iN a0, iN a1, sl_Kind a2] ∧ f31 N a0 a1 a2 = some r ∧ d = .tup [Layout.d r.1, iN r.2]
theorem G31.step {N : Nat} {a0 : Int} {a1 : Int} {a2 : List Kind} {ρ : Type} {A : (Layout × Int) → Option ρ} {q : ρ} {ds : List D} {K : D → Prop} (hd : ds = [iN a0, iN a1, sl_Kind a2]) (h : ∀ r, A r = some q → K (.tup [Layout.d r.1, iN r.2])) (hF : (f31 N a0 a1 a2).bind A = some q) : ∃ d, G31 ds d ∧ K d := by
  obtain ⟨r, hr, hA⟩ := bind_some hF
  exact ⟨_, ⟨N, a0, a1, a2, r, hd, hr, rfl⟩, h r hA⟩
set_option maxRecDepth 20000 in
set_option maxHeartbeats 4000000 in
theorem P31 : PureOK Try.prog 31 G31 := by
  refine pure_of_vc (c := mkCtx tyTree [(67, false, inlPg (mkCtx tyTree [(74, false, inlPg (mkCtx tyTree [(75, true, purePg [[0, 0, 0, 0, 0], [0, 0, 0, 0, 0]] G75)]) Try.f74), (49, true, purePg [[0], [0], [3]] G49)]) Try.f67), (68, false, effPg Spf68 G68), (66, true, purePg [[0], [0], [3]] G66)]) rfl tyOK (ctx_eff (callable Try.func67 rfl rfl) (CallOK.inl rfl tyOK (ctx_eff (callable Try.func74 rfl rfl) (CallOK.inl rfl tyOK (ctx_cons (callable Try.func75 rfl rfl) P75 (ctx_nil)) Try.func74 (by kernel_rfl)) (ctx_cons (callable Try.func49 rfl rfl) P49 (ctx_nil))) Try.func67 (by kernel_rfl)) (ctx_eff (callable Try.func68 rfl rfl) P68 (ctx_cons (callable Try.func66 rfl rfl) P66 (ctx_nil)))) [[0, 0, 4], [0]] 3 Try.func31 rfl rfl (by decide) (by kernel_rfl) ?_
  rintro ds d ⟨N, a0, a1, a2, r, rfl, hF, rfl⟩ hok
  clear hok
  refine ⟨rfl, ?_⟩
  show vc _ _ _ _ ⟨[(0, .dat (iN a0)), (1, .dat (iN a1)), (2, .dat (sl_Kind a2))], []⟩ _
  unfold f31 at hF
  repeat' (first
    | ((with_reducible refine q0 _ _ ?_); clear Q q0 q1 q2)
    | ((with_reducible refine q1 _ _ _ _ ?_); clear Q q0 q1 q2)
    | ((with_reducible refine q2 _ _ _ ?_); clear Q q0 q1 q2)
    | ((with_reducible refine seq_op ?hx (fun Q q0 q1 q2 => ?_)); (case hx => exact rfl); conv => whnf)
    | ((with_reducible refine draw_op ?hx (fun Q q0 q1 q2 => ?_)); (case hx => exact rfl); conv => whnf)
    | ((with_reducible refine seq_op0 ?hx (fun Q q0 q1 q2 => ?_)); (case hx => exact rfl); conv => whnf)
    | ((with_reducible refine draw_op0 ?hx (fun Q q0 q1 q2 => ?_)); (case hx => exact rfl); conv => whnf)
    | ((with_reducible refine cond_id ?_); (first | ((refine condKT rfl ?hy ?_); (case hy => first | assumption | exact notT (by assumption) | exact rfl)) | ((refine condKF rfl ?hy ?_); (case hy => first | assumption | exact notF (by assumption) | exact rfl)) | (revert hF; (with_reducible refine condF ?hx ?_ ?_); (case hx => exact rfl); all_goals (intro hc hF))))
    | ((with_reducible refine seq_nil ?_); (first | ((with_reducible refine hR _ ?_); clear R hR) | ((with_reducible refine hL _ ?_); clear L hL)))
    | ((with_reducible refine draw_nil ?_); (with_reducible refine hR _ _ ?hx ?_); (case hx => kernel_rfl); (first | clear R hR | clear hR))
    | ((with_reducible refine int_step ?_); conv => whnf)
    | ((with_reducible refine len_step ?_); conv => whnf)
    | with_reducible refine vc_block ?_
    | with_reducible refine vc_skip ?_
    | with_reducible refine vc_ret ?_
    | with_reducible refine vc_exit ?_
    | ((with_reducible refine vc_seqN [10, 404000000021, 404000000004, 404000000007, 404000000017, 404000000012] ?hx ?_); (case hx => exact rfl))
    | (with_reducible refine vc_region (fun R hR => ?_))
    | ((with_reducible refine vc_draw ?hx (fun R hR => ?_)); (case hx => exact rfl))
    | ((with_reducible refine vc_tail (n := 4) ?hx ?hn rfl rfl (fun R L hL hR => ?_)); (case hx => kernel_rfl); (case hn => exact rfl); simp only [List.take_succ_cons, List.take_zero, List.drop_succ_cons, List.drop_zero] at hR ⊢)
    | ((with_reducible refine vc_tail (n := 19) ?hx ?hn rfl rfl (fun R L hL hR => ?_)); (case hx => kernel_rfl); (case hn => exact rfl); simp only [List.take_succ_cons, List.take_zero, List.drop_succ_cons, List.drop_zero] at hR ⊢)
    | (revert hF; (refine Cf31_c10 rfl rfl ?_ ?_); (intro hF); rotate_left; (intro b703_2 hF; unfold f31_c10 at hF); rotate_right)
    | exact Zf31_c10 hF ⟨_, rfl, rfl, rfl, rfl⟩ (by first | exact rfl | assumption | omega)
    | (revert hF; (refine Cf31_i403_c21 rfl rfl ?_ ?_); (intro hF); rotate_left; (intro b101 hF; unfold f31_i403_c21 at hF); rotate_right)
    | exact Zf31_i403_c21 hF ⟨_, rfl, rfl, rfl, rfl⟩
    | (revert hF; (refine Cf31_i403_c4 rfl rfl ?_ ?_); (intro hF); rotate_left; (intro b101' hF; unfold f31_i403_c4 at hF); rotate_right)
    | exact Zf31_i403_c4 hF ⟨_, rfl, rfl, rfl, rfl⟩
    | (revert hF; (refine Cf31_i403_c7 rfl rfl ?_ ?_); (intro hF); rotate_left; (intro b101'' hF; unfold f31_i403_c7 at hF); rotate_right)
    | exact Zf31_i403_c7 hF ⟨_, rfl, rfl, rfl, rfl⟩
    | (revert hF; (refine Lf31_i403_18 rfl ⟨_, rfl, rfl, rfl, rfl⟩ ?_); intro n v15 b101'''' hF; unfold f31_i403_18b at hF)
    | exact Mf31_i403_18 hF ⟨_, rfl, rfl, rfl, rfl⟩
    | (revert hF; (refine Cf31_i403_c17 rfl rfl ?_ ?_); (intro hF); rotate_left; (intro b101''' hF; unfold f31_i403_c17 at hF); rotate_right)
    | exact Zf31_i403_c17 hF ⟨_, rfl, rfl, rfl, rfl⟩
    | (revert hF; (refine Lf31_i403_14 rfl ⟨_, rfl, rfl, rfl, rfl⟩ ?_); intro n v14 b101''' hF; unfold f31_i403_14b at hF)
    | exact Mf31_i403_14 hF ⟨_, rfl, rfl, rfl, rfl⟩
    | (revert hF; (refine Cf31_i403_c12 rfl rfl ?_ ?_); (intro hF); rotate_left; (intro b101'' hF; unfold f31_i403_c12 at hF); rotate_right)
    | exact Zf31_i403_c12 hF ⟨_, rfl, rfl, rfl, rfl⟩
    | (revert hF; (refine Lf31_i403_6 rfl ⟨_, rfl, rfl, rfl, rfl⟩ ?_); intro n v9 b101' hF; unfold f31_i403_6b at hF)
    | exact Mf31_i403_6 hF ⟨_, rfl, rfl, rfl, rfl⟩
    | (revert hF; (refine Lf31_i403_3 rfl ⟨_, rfl, rfl, rfl, rfl⟩ ?_); intro n v8 b101 hF; unfold f31_i403_3b at hF)
    | exact Mf31_i403_3 hF ⟨_, rfl, rfl, rfl, rfl⟩
    | (revert hF; (with_reducible refine G49.step ?hx ?_); (case hx => exact rfl); intro v hF; conv => whnf)
    | (revert hF; (with_reducible refine G66.step ?hx ?_); (case hx => exact rfl); intro v hF; conv => whnf)
    | (revert hF; (with_reducible refine G75.step ?hx ?_); (case hx => exact rfl); intro v hF; conv => whnf)
    | (revert hF; (refine G68.step rfl rfl rfl rfl rfl rfl rfl ?hn ?_); (case hn => exact rfl); intro v hF; conv => whnf)
    | ((with_reducible refine zeroA_step (flatC Choice.d (List.replicate 169 (Choice.mk (0 : Int) (0 : Int) false (Cut.mk false (0 : Int))))) ?hx ?_); (case hx => exact ⟨by kernel_rfl, by kernel_rfl⟩); conv => whnf)
    | ((with_reducible refine zeroD_step (flatC Choice.d (List.replicate 169 (Choice.mk (0 : Int) (0 : Int) false (Cut.mk false (0 : Int))))) ?hx ?_); (case hx => (unfold zeroD; kernel_rfl)); conv => whnf)
    | ((with_reducible refine chkI_go hF ?_); (clear hF; intro hF; conv => whnf))
    | ((with_reducible have hG := ixN_fact hF); clear hF; (first | (refine ixN_one hG (by (try simp only [W]); omega) (fun x hF => ?_)) | (refine ixN_agg hG (fun _ => rfl) (by (try simp only [W]); omega) (fun x hF => ?_)) | (refine ixN_field (s := 5) (f := 1) (fun x => iN x.labels) hG (fun _ => rfl) (fun _ => rfl) (by (try simp only [W]); omega) (fun x hF => ?_))); clear hG; conv => whnf)
    | ((with_reducible have hG := setN_fact hF); clear hF; (first | (refine setN_one hG (by (try simp only [W]); omega) rfl rfl (fun q hF => ?_)) | (refine setN_agg hG (fun _ => rfl) (by (try simp only [W]); omega) rfl rfl (fun q hF => ?_))); clear hG; conv => whnf)
    | with_reducible refine k_seq_ret ?_
    | with_reducible refine k_seq_exit ?_
    | with_reducible refine k_blk ?_
    | with_reducible refine k_blk_ret ?_
    | with_reducible refine k_blk_here ?_
    | ((with_reducible refine k_blk_out ?hx ?_); (case hx => exact rfl))
    | with_reducible refine k_loop_ret ?_
    | with_reducible refine k_loop_exit ?_
    | ((refine row_all ?hn ?_); (case hn => first | exact rfl | (simp; done) | (simp; omega)); conv => whnf)
    | ((with_reducible refine le_step ?hn ?_); (case hn => first | exact rfl | assumption | omega); conv => whnf)
    | ((refine ⟨?hx, ?_⟩); (case hx => exact ⟨rfl, Nat.le_of_ble_eq_true rfl, rfl⟩); conv => whnf)
    | ((with_reducible refine ex_step ?_); conv => whnf)
    | ((with_reducible refine both_T ?hx ?_); (case hx => first | exact rfl | assumption | exact notT (by assumption)); conv => whnf)
    | ((with_reducible refine both_F ?hx ?_); (case hx => first | exact rfl | assumption | exact notF (by assumption)); conv => whnf)
    | (revert hF; (with_reducible refine ite_step ?_ ?_) <;> (intro hc hF; conv => whnf))
    | ((with_reducible refine vc_condT ?hx ?_); (case hx => exact rfl))
    | ((with_reducible refine vc_condF ?hx ?_); (case hx => exact rfl))
    | (show retD _ _ _ _ _ _; conv => whnf)
    | ((refine inl_step ?ha ?hb ?hc rfl ?_); (case ha => exact rfl); (case hb => omega); (case hc => exact Nat.le_of_ble_eq_true rfl))
    | (show Kinl _ _ _ _ _ _ _; conv => whnf)
    | ((with_reducible refine kinl_step ?ha ?hb ?_); (case ha => exact rfl); (case hb => exact rfl); conv => whnf)
    | ((refine ⟨?hx, trivial⟩); (case hx => (cases hF; exact rfl)))
    | ((refine ⟨?hx, ?_⟩); (case hx => decide); conv => whnf)
    | ((with_reducible refine k_seq ?_))
    | (have hF : (none : Option _) = some _ := hF; cases hF))
end
end Go.Vc
namespace Go.Vc
open Go.Proofs
set_option linter.unusedVariables false
set_option linter.unnecessarySimpa false
set_option linter.unusedSimpArgs false
section
variable {c : Ctx} {p nid : Nat} {a b : Code} {st : St} {K : Ex → St → Prop}
/- f42: tusche/tuschelaw06.labels -/
def f42_c6 (out3 : List Label) : Option ((List Label)) :=
 some (out3)
def Sf42_c6 : Ann := ⟨[3], [90003], [(.slot 3, 90003, 50, 4)], []⟩
def Vf42_c6 (out3 : List Label) : List SV := [.rs 90003 (List.length out3)]
def Bf42_c6 (out3 : List Label) : List Blk := [.row 50 4 (List.map Label.d out3)]
def Yf42_c6 (y : (List Label)) : List SV := Vf42_c6 y
def Xf42_c6 (y : (List Label)) : List Blk := Bf42_c6 y
def Jf42_c6 (r : (List Label)) (y : (List Label)) : Prop := f42_c6 y = some r
def V2f42_c6 (out3 : List Label) (m0 : Nat) : List SV := [.rs 90003 m0]
def B2f42_c6 (out3 : List Label) (m0 : Nat) : List Blk := [.row 50 4 (List.map Label.d out3)]
theorem Cf42_c6 {r : (List Label)} {g : _ → Option ((List Label))} (hn : Nat.beq (nid * 1000 + firstRegion b) 6 = true) (hz : Sf42_c6.ok p = true) (h : g f42_c6 = some r → vc c p nid a st (KHead Sf42_c6 Yf42_c6 Xf42_c6 (Jf42_c6 r) K)) (h2 : ∀ (out3 : List Label), f42_c6 out3 = some r → vc c p nid b (St.mk' Sf42_c6 (Vf42_c6 out3) (Bf42_c6 out3)) K) (hF : joinK f42_c6 g = some r) : vc c p nid (.seq a b) st K :=
  vc_cut Sf42_c6 Yf42_c6 Xf42_c6 (Jf42_c6 r) hz (h hF) fun y hy => h2 y hy
theorem Zf42_c6 {r : (List Label)} {out3 : List Label} {m0 : Nat} (hF : f42_c6 out3 = some r) (h0 : AtH Sf42_c6 st (V2f42_c6 out3 m0) (B2f42_c6 out3 m0)) (em0 : m0 = List.length out3) : KHead Sf42_c6 Yf42_c6 Xf42_c6 (Jf42_c6 r) K .normal st := by
  subst em0; exact khead (I := (Jf42_c6 r)) (x := (out3)) hF h0
def f42_3b (r3 : (List Label) → Int → Option ((List Label))) (a0 : List Int) (k0 : (List Label) → Option ((List Label))) (out3 : List Label) (i4 : Int) : Option ((List Label)) :=
 bif decide ((W (i4 + (3 : Int))) < (List.length a0 : Int)) then ((ix a0 i4).bind fun x1 =>
 (ix a0 (W (i4 + (1 : Int)))).bind fun x2 =>
 (ix a0 (W (i4 + (2 : Int)))).bind fun x3 =>
 (ix a0 (W (i4 + (3 : Int)))).bind fun x4 =>
 (app 32 out3 [(Label.mk x1 x2 x3 x4)]).bind fun x5 =>
 r3 x5 (W (i4 + (4 : Int))))
 else (k0 out3)
def f42_3 (a0 : List Int) (k0 : (List Label) → Option ((List Label))) : Nat → (List Label) → Int → Option ((List Label))
  | 0, _, _ => none
  | n + 1, out3, i4 => f42_3b (f42_3 a0 k0 n) a0 k0 out3 i4
def Sf42_3 : Ann := ⟨[0, 3, 4], [90003], [(.slot 3, 90003, 50, 4)], []⟩
def Vf42_3 (a0 : List Int) (out3 : List Label) (i4 : Int) : List SV := [.dat (sl_iN a0), .rs 90003 (List.length out3), .dat (iN i4)]
def Bf42_3 (a0 : List Int) (out3 : List Label) (i4 : Int) : List Blk := [.row 50 4 (List.map Label.d out3)]
def Yf42_3 (a0 : List Int) (y : Nat × (List Label) × Int) : List SV := Vf42_3 a0 y.2.1 y.2.2
def Xf42_3 (a0 : List Int) (y : Nat × (List Label) × Int) : List Blk := Bf42_3 a0 y.2.1 y.2.2
def Jf42_3 (a0 : List Int) (k0 : (List Label) → Option ((List Label))) (r : (List Label)) (y : Nat × (List Label) × Int) : Prop := f42_3 a0 k0 y.1 y.2.1 y.2.2 = some r
def V2f42_3 (a0 : List Int) (out3 : List Label) (i4 : Int) (m0 : Nat) : List SV := [.dat (sl_iN a0), .rs 90003 m0, .dat (iN i4)]
def B2f42_3 (a0 : List Int) (out3 : List Label) (i4 : Int) (m0 : Nat) : List Blk := [.row 50 4 (List.map Label.d out3)]
theorem Lf42_3 {r : (List Label)} {a0 : List Int} {k0 : (List Label) → Option ((List Label))} {fu : Nat} {out3 : List Label} {i4 : Int} {m0 : Nat} (hz : Sf42_3.ok p = true) (h0 : AtH Sf42_3 st (V2f42_3 a0 out3 i4 m0) (B2f42_3 a0 out3 i4 m0)) (em0 : m0 = List.length out3) (h : ∀ (n : Nat) (out3 : List Label) (i4 : Int), f42_3b (f42_3 a0 k0 n) a0 k0 out3 i4 = some r → vc c p nid a (St.mk' Sf42_3 (Vf42_3 a0 out3 i4) (Bf42_3 a0 out3 i4)) (Kloop Sf42_3 (Yf42_3 a0) (Xf42_3 a0) (Jf42_3 a0 k0 r) Prod.fst (n + 1, out3, i4) K)) (hF : f42_3 a0 k0 fu out3 i4 = some r) : vc c p nid (.loop a) st K := by
  subst em0; refine vc_loop Sf42_3 (Yf42_3 a0) (Xf42_3 a0) (Jf42_3 a0 k0 r) Prod.fst hz (kheadL (x := (fu, out3, i4)) hF h0) ?_
  rintro ⟨_ | n, out3, i4⟩ hI
  · cases hI
  · exact h n out3 i4 hI
theorem Mf42_3 {r : (List Label)} {a0 : List Int} {k0 : (List Label) → Option ((List Label))} {n : Nat} {out3 : List Label} {i4 : Int} {out3_ : List Label} {i4_ : Int} {m0 : Nat} (hF : f42_3 a0 k0 n out3 i4 = some r) (h0 : AtH Sf42_3 st (V2f42_3 a0 out3 i4 m0) (B2f42_3 a0 out3 i4 m0)) (em0 : m0 = List.length out3) : Kloop Sf42_3 (Yf42_3 a0) (Xf42_3 a0) (Jf42_3 a0 k0 r) Prod.fst (n + 1, out3_, i4_) K .normal st := by
  subst em0; exact kback (y := (n, out3, i4)) hF (Nat.lt_succ_self n) h0
def f42 (N : Nat) (a0 : List Int) : Option ((List Label)) :=
 joinK f42_c6 fun k0 =>
 f42_3 a0 k0 N [] (0 : Int)
def G42 (ds : List D) (d : D) : Prop := ∃ (N : Nat) (a0 : List Int) (r : (List Label)), ds = [sl_iN a0] ∧ f42 N a0 = some r ∧ d = sl_Label r
theorem G42.step {N : Nat} {a0 : List Int} {ρ : Type} {A : (List Label) → Option ρ} {q : ρ} {ds : List D} {K : D → Prop} (hd : ds = [sl_iN a0]) (h : ∀ r, A r = some q → K (sl_Label r)) (hF : (f42 N a0).bind A = some q) : ∃ d, G42 ds d ∧ K d := by
  obtain ⟨r, hr, hA⟩ := bind_some hF
  exact ⟨_, ⟨N, a0, r, hd, hr, rfl⟩, h r hA⟩
set_option maxRecDepth 20000 in
set_option maxHeartbeats 4000000 in
theorem P42 : PureOK Try.prog 42 G42 := by
  refine pure_of_vc (c := mkCtx tyTree []) rfl tyOK (ctx_nil) [[4]] 1 Try.func42 rfl rfl (by decide) (by kernel_rfl) ?_
  rintro ds d ⟨N, a0, r, rfl, hF, rfl⟩ hok
  clear hok
  refine ⟨rfl, ?_⟩
  show vc _ _ _ _ ⟨[(0, .dat (sl_iN a0))], []⟩ _
  unfold f42 at hF
  repeat' (first
    | ((with_reducible refine q0 _ _ ?_); clear Q q0 q1 q2)
    | ((with_reducible refine q1 _ _ _ _ ?_); clear Q q0 q1 q2)
    | ((with_reducible refine q2 _ _ _ ?_); clear Q q0 q1 q2)
    | ((with_reducible refine seq_op ?hx (fun Q q0 q1 q2 => ?_)); (case hx => exact rfl); conv => whnf)
    | ((with_reducible refine draw_op ?hx (fun Q q0 q1 q2 => ?_)); (case hx => exact rfl); conv => whnf)
    | ((with_reducible refine cond_id ?_); (first | ((refine condKT rfl ?hy ?_); (case hy => first | assumption | exact notT (by assumption) | exact rfl)) | ((refine condKF rfl ?hy ?_); (case hy => first | assumption | exact notF (by assumption) | exact rfl)) | (revert hF; (with_reducible refine condF ?hx ?_ ?_); (case hx => exact rfl); all_goals (intro hc hF))))
    | ((with_reducible refine seq_nil ?_); (first | ((with_reducible refine hR _ ?_); clear R hR) | ((with_reducible refine hL _ ?_); clear L hL)))
    | ((with_reducible refine draw_nil ?_); (with_reducible refine hR _ _ ?hx ?_); (case hx => kernel_rfl); (first | clear R hR | clear hR))
    | ((with_reducible refine int_step ?_); conv => whnf)
    | ((with_reducible refine len_step ?_); conv => whnf)
    | ((with_reducible refine idx2 (by assumption) ?_); conv => whnf)
    | ((with_reducible refine idx3 (by assumption) ?_); conv => whnf)
    | with_reducible refine vc_block ?_
    | with_reducible refine vc_skip ?_
    | with_reducible refine vc_ret ?_
    | with_reducible refine vc_exit ?_
    | ((with_reducible refine vc_seqN [6] ?hx ?_); (case hx => exact rfl))
    | (with_reducible refine vc_region (fun R hR => ?_))
    | ((with_reducible refine vc_draw ?hx (fun R hR => ?_)); (case hx => exact rfl))
    | fail
    | (revert hF; (refine Cf42_c6 rfl rfl ?_ ?_); (intro hF); rotate_left; (intro out3 hF; unfold f42_c6 at hF); rotate_right)
    | exact Zf42_c6 hF ⟨_, rfl, rfl, rfl, rfl⟩ (by first | exact rfl | assumption | omega)
    | (revert hF; (refine Lf42_3 rfl ⟨_, rfl, rfl, rfl, rfl⟩ (by first | exact rfl | assumption | omega) ?_); intro n out3 i4 hF; unfold f42_3b at hF)
    | exact Mf42_3 hF ⟨_, rfl, rfl, rfl, rfl⟩ (by first | exact rfl | assumption | omega)
    | with_reducible refine k_seq_ret ?_
    | with_reducible refine k_seq_exit ?_
    | with_reducible refine k_blk ?_
    | with_reducible refine k_blk_ret ?_
    | with_reducible refine k_blk_here ?_
    | ((with_reducible refine k_blk_out ?hx ?_); (case hx => exact rfl))
    | with_reducible refine k_loop_ret ?_
    | with_reducible refine k_loop_exit ?_
    | (revert hF; (with_reducible refine idx1 ?hn ?_); (case hn => first | exact rfl | exact (List.length_map _) | assumption | omega | simp); intro x hx hF; conv => whnf)
    | ((with_reducible have hG := app_fact hF); clear hF; (first | ((refine app_row hG ?hn ?hs (fun q hF => ?_)); (case hn => first | exact rfl | assumption | omega); (case hs => exact rfl)) | ((refine app_nil (d := Label.d) hG ?hs (fun q hF => ?_)); (case hs => exact rfl)) | ((refine app_gen (d := Label.d) hG ?ho ?hn ?hs (fun q hF => ?_)); (case ho => exact rfl); (case hn => exact rfl); (case hs => exact rfl))); clear hG; conv => whnf)
    | ((refine row_all ?hn ?_); (case hn => first | exact rfl | (simp; done) | (simp; omega)); conv => whnf)
    | ((with_reducible refine le_step ?hn ?_); (case hn => first | exact rfl | assumption | omega); conv => whnf)
    | ((refine ⟨?hx, ?_⟩); (case hx => exact ⟨rfl, Nat.le_of_ble_eq_true rfl, rfl⟩); conv => whnf)
    | ((with_reducible refine ex_step ?_); conv => whnf)
    | ((with_reducible refine both_T ?hx ?_); (case hx => first | exact rfl | assumption | exact notT (by assumption)); conv => whnf)
    | ((with_reducible refine both_F ?hx ?_); (case hx => first | exact rfl | assumption | exact notF (by assumption)); conv => whnf)
    | (revert hF; (with_reducible refine ite_step ?_ ?_) <;> (intro hc hF; conv => whnf))
    | ((with_reducible refine vc_condT ?hx ?_); (case hx => exact rfl))
    | ((with_reducible refine vc_condF ?hx ?_); (case hx => exact rfl))
    | (show retD _ _ _ _ _ _; conv => whnf)
    | ((refine ⟨?hx, trivial⟩); (case hx => (cases hF; exact rfl)))
    | ((refine ⟨?hx, ?_⟩); (case hx => decide); conv => whnf)
    | ((with_reducible refine k_seq ?_))
    | (have hF : (none : Option _) = some _ := hF; cases hF))
end
end Go.Vc
namespace Go.Vc
open Go.Proofs
set_option linter.unusedVariables false
set_option linter.unnecessarySimpa false
set_option linter.unusedSimpArgs false
section
variable {c : Ctx} {p nid : Nat} {a b : Code} {st : St} {K : Ex → St → Prop}
/- f39: tusche/tuschelaw06.M -/
def f39 (N : Nat) : Option (Layout) :=
 (f42 N [(0 : Int), (0 : Int), (2 : Int), (1 : Int), (2 : Int), (0 : Int), (1 : Int), (2 : Int), (1 : Int), (2 : Int), (2 : Int), (1 : Int), (0 : Int), (1 : Int), (1 : Int), (2 : Int), (1 : Int), (1 : Int), (1 : Int), (1 : Int)]).bind fun x1 =>
 some ((Layout.mk (3 : Int) (3 : Int) x1))
def G39 (ds : List D) (d : D) : Prop := ∃ (N : Nat) (r : Layout), ds = [] ∧ f39 N  = some r ∧ d = Layout.d r
theorem G39.step {N : Nat} {ρ : Type} {A : Layout → Option ρ} {q : ρ} {ds : List D} {K : D → Prop} (hd : ds = []) (h : ∀ r, A r = some q → K (Layout.d r)) (hF : (f39 N ).bind A = some q) : ∃ d, G39 ds d ∧ K d := by
  obtain ⟨r, hr, hA⟩ := bind_some hF
  exact ⟨_, ⟨N, r, hd, hr, rfl⟩, h r hA⟩
set_option maxRecDepth 20000 in
set_option maxHeartbeats 4000000 in
theorem P39 : PureOK Try.prog 39 G39 := by
  refine pure_of_vc (c := mkCtx tyTree [(42, true, purePg [[1]] G42)]) rfl tyOK (ctx_cons (callable Try.func42 rfl rfl) P42 (ctx_nil)) [[0, 0, 4]] 0 Try.func39 rfl rfl (by decide) (by kernel_rfl) ?_
  rintro ds d ⟨N, r, rfl, hF, rfl⟩ hok
  clear hok
  refine ⟨rfl, ?_⟩
  show vc _ _ _ _ ⟨[], []⟩ _
  unfold f39 at hF
  repeat' (first
    | ((with_reducible refine q0 _ _ ?_); clear Q q0 q1 q2)
    | ((with_reducible refine q1 _ _ _ _ ?_); clear Q q0 q1 q2)
    | ((with_reducible refine q2 _ _ _ ?_); clear Q q0 q1 q2)
    | ((with_reducible refine seq_op ?hx (fun Q q0 q1 q2 => ?_)); (case hx => exact rfl); conv => whnf)
    | ((with_reducible refine seq_op0 ?hx (fun Q q0 q1 q2 => ?_)); (case hx => exact rfl); conv => whnf)
    | ((with_reducible refine seq_nil ?_); (first | ((with_reducible refine hR _ ?_); clear R hR) | ((with_reducible refine hL _ ?_); clear L hL)))
    | ((with_reducible refine int_step ?_); conv => whnf)
    | with_reducible refine vc_skip ?_
    | with_reducible refine vc_ret ?_
    | ((with_reducible refine vc_seqN [] ?hx ?_); (case hx => exact rfl))
    | (with_reducible refine vc_region (fun R hR => ?_))
    | fail
    | (revert hF; (with_reducible refine G42.step ?hx ?_); (case hx => exact rfl); intro v hF; conv => whnf)
    | with_reducible refine k_seq_ret ?_
    | ((refine row_all ?hn ?_); (case hn => first | exact rfl | (simp; done) | (simp; omega)); conv => whnf)
    | ((with_reducible refine le_step ?hn ?_); (case hn => first | exact rfl | assumption | omega); conv => whnf)
    | ((refine ⟨?hx, ?_⟩); (case hx => exact ⟨rfl, Nat.le_of_ble_eq_true rfl, rfl⟩); conv => whnf)
    | ((with_reducible refine ex_step ?_); conv => whnf)
    | ((with_reducible refine both_T ?hx ?_); (case hx => first | exact rfl | assumption | exact notT (by assumption)); conv => whnf)
    | ((with_reducible refine both_F ?hx ?_); (case hx => first | exact rfl | assumption | exact notF (by assumption)); conv => whnf)
    | (revert hF; (with_reducible refine ite_step ?_ ?_) <;> (intro hc hF; conv => whnf))
    | (show retD _ _ _ _ _ _; conv => whnf)
    | ((refine ⟨?hx, trivial⟩); (case hx => (cases hF; exact rfl)))
    | ((refine ⟨?hx, ?_⟩); (case hx => decide); conv => whnf)
    | ((with_reducible refine k_seq ?_))
    | (have hF : (none : Option _) = some _ := hF; cases hF))
end
end Go.Vc
namespace Go.Vc
open Go.Proofs
set_option linter.unusedVariables false
set_option linter.unnecessarySimpa false
set_option linter.unusedSimpArgs false
section
variable {c : Ctx} {p nid : Nat} {a b : Code} {st : St} {K : Ex → St → Prop}
/- f40: tusche/tuschelaw06.kinds -/
def f40_c6 (out3 : List Kind) : Option ((List Kind)) :=
 some (out3)
def Sf40_c6 : Ann := ⟨[3], [90003], [(.slot 3, 90003, 88, 3)], []⟩
def Vf40_c6 (out3 : List Kind) : List SV := [.rs 90003 (List.length out3)]
def Bf40_c6 (out3 : List Kind) : List Blk := [.row 88 3 (List.map Kind.d out3)]
def Yf40_c6 (y : (List Kind)) : List SV := Vf40_c6 y
def Xf40_c6 (y : (List Kind)) : List Blk := Bf40_c6 y
def Jf40_c6 (r : (List Kind)) (y : (List Kind)) : Prop := f40_c6 y = some r
def V2f40_c6 (out3 : List Kind) (m0 : Nat) : List SV := [.rs 90003 m0]
def B2f40_c6 (out3 : List Kind) (m0 : Nat) : List Blk := [.row 88 3 (List.map Kind.d out3)]
theorem Cf40_c6 {r : (List Kind)} {g : _ → Option ((List Kind))} (hn : Nat.beq (nid * 1000 + firstRegion b) 6 = true) (hz : Sf40_c6.ok p = true) (h : g f40_c6 = some r → vc c p nid a st (KHead Sf40_c6 Yf40_c6 Xf40_c6 (Jf40_c6 r) K)) (h2 : ∀ (out3 : List Kind), f40_c6 out3 = some r → vc c p nid b (St.mk' Sf40_c6 (Vf40_c6 out3) (Bf40_c6 out3)) K) (hF : joinK f40_c6 g = some r) : vc c p nid (.seq a b) st K :=
  vc_cut Sf40_c6 Yf40_c6 Xf40_c6 (Jf40_c6 r) hz (h hF) fun y hy => h2 y hy
theorem Zf40_c6 {r : (List Kind)} {out3 : List Kind} {m0 : Nat} (hF : f40_c6 out3 = some r) (h0 : AtH Sf40_c6 st (V2f40_c6 out3 m0) (B2f40_c6 out3 m0)) (em0 : m0 = List.length out3) : KHead Sf40_c6 Yf40_c6 Xf40_c6 (Jf40_c6 r) K .normal st := by
  subst em0; exact khead (I := (Jf40_c6 r)) (x := (out3)) hF h0
def f40_3b (r3 : (List Kind) → Int → Option ((List Kind))) (a0 : List Int) (k0 : (List Kind) → Option ((List Kind))) (out3 : List Kind) (i4 : Int) : Option ((List Kind)) :=
 bif decide ((W (i4 + (2 : Int))) < (List.length a0 : Int)) then ((ix a0 i4).bind fun x1 =>
 (ix a0 (W (i4 + (1 : Int)))).bind fun x2 =>
 (ix a0 (W (i4 + (2 : Int)))).bind fun x3 =>
 (app 24 out3 [(Kind.mk x1 x2 x3)]).bind fun x4 =>
 r3 x4 (W (i4 + (3 : Int))))
 else (k0 out3)
def f40_3 (a0 : List Int) (k0 : (List Kind) → Option ((List Kind))) : Nat → (List Kind) → Int → Option ((List Kind))
  | 0, _, _ => none
  | n + 1, out3, i4 => f40_3b (f40_3 a0 k0 n) a0 k0 out3 i4
def Sf40_3 : Ann := ⟨[0, 3, 4], [90003], [(.slot 3, 90003, 88, 3)], []⟩
def Vf40_3 (a0 : List Int) (out3 : List Kind) (i4 : Int) : List SV := [.dat (sl_iN a0), .rs 90003 (List.length out3), .dat (iN i4)]
def Bf40_3 (a0 : List Int) (out3 : List Kind) (i4 : Int) : List Blk := [.row 88 3 (List.map Kind.d out3)]
def Yf40_3 (a0 : List Int) (y : Nat × (List Kind) × Int) : List SV := Vf40_3 a0 y.2.1 y.2.2
def Xf40_3 (a0 : List Int) (y : Nat × (List Kind) × Int) : List Blk := Bf40_3 a0 y.2.1 y.2.2
def Jf40_3 (a0 : List Int) (k0 : (List Kind) → Option ((List Kind))) (r : (List Kind)) (y : Nat × (List Kind) × Int) : Prop := f40_3 a0 k0 y.1 y.2.1 y.2.2 = some r
def V2f40_3 (a0 : List Int) (out3 : List Kind) (i4 : Int) (m0 : Nat) : List SV := [.dat (sl_iN a0), .rs 90003 m0, .dat (iN i4)]
def B2f40_3 (a0 : List Int) (out3 : List Kind) (i4 : Int) (m0 : Nat) : List Blk := [.row 88 3 (List.map Kind.d out3)]
theorem Lf40_3 {r : (List Kind)} {a0 : List Int} {k0 : (List Kind) → Option ((List Kind))} {fu : Nat} {out3 : List Kind} {i4 : Int} {m0 : Nat} (hz : Sf40_3.ok p = true) (h0 : AtH Sf40_3 st (V2f40_3 a0 out3 i4 m0) (B2f40_3 a0 out3 i4 m0)) (em0 : m0 = List.length out3) (h : ∀ (n : Nat) (out3 : List Kind) (i4 : Int), f40_3b (f40_3 a0 k0 n) a0 k0 out3 i4 = some r → vc c p nid a (St.mk' Sf40_3 (Vf40_3 a0 out3 i4) (Bf40_3 a0 out3 i4)) (Kloop Sf40_3 (Yf40_3 a0) (Xf40_3 a0) (Jf40_3 a0 k0 r) Prod.fst (n + 1, out3, i4) K)) (hF : f40_3 a0 k0 fu out3 i4 = some r) : vc c p nid (.loop a) st K := by
  subst em0; refine vc_loop Sf40_3 (Yf40_3 a0) (Xf40_3 a0) (Jf40_3 a0 k0 r) Prod.fst hz (kheadL (x := (fu, out3, i4)) hF h0) ?_
  rintro ⟨_ | n, out3, i4⟩ hI
  · cases hI
  · exact h n out3 i4 hI
theorem Mf40_3 {r : (List Kind)} {a0 : List Int} {k0 : (List Kind) → Option ((List Kind))} {n : Nat} {out3 : List Kind} {i4 : Int} {out3_ : List Kind} {i4_ : Int} {m0 : Nat} (hF : f40_3 a0 k0 n out3 i4 = some r) (h0 : AtH Sf40_3 st (V2f40_3 a0 out3 i4 m0) (B2f40_3 a0 out3 i4 m0)) (em0 : m0 = List.length out3) : Kloop Sf40_3 (Yf40_3 a0) (Xf40_3 a0) (Jf40_3 a0 k0 r) Prod.fst (n + 1, out3_, i4_) K .normal st := by
  subst em0; exact kback (y := (n, out3, i4)) hF (Nat.lt_succ_self n) h0
def f40 (N : Nat) (a0 : List Int) : Option ((List Kind)) :=
 joinK f40_c6 fun k0 =>
 f40_3 a0 k0 N [] (0 : Int)
def G40 (ds : List D) (d : D) : Prop := ∃ (N : Nat) (a0 : List Int) (r : (List Kind)), ds = [sl_iN a0] ∧ f40 N a0 = some r ∧ d = sl_Kind r
theorem G40.step {N : Nat} {a0 : List Int} {ρ : Type} {A : (List Kind) → Option ρ} {q : ρ} {ds : List D} {K : D → Prop} (hd : ds = [sl_iN a0]) (h : ∀ r, A r = some q → K (sl_Kind r)) (hF : (f40 N a0).bind A = some q) : ∃ d, G40 ds d ∧ K d := by
  obtain ⟨r, hr, hA⟩ := bind_some hF
  exact ⟨_, ⟨N, a0, r, hd, hr, rfl⟩, h r hA⟩
set_option maxRecDepth 20000 in
set_option maxHeartbeats 4000000 in
theorem P40 : PureOK Try.prog 40 G40 := by
  refine pure_of_vc (c := mkCtx tyTree []) rfl tyOK (ctx_nil) [[3]] 1 Try.func40 rfl rfl (by decide) (by kernel_rfl) ?_
  rintro ds d ⟨N, a0, r, rfl, hF, rfl⟩ hok
  clear hok
  refine ⟨rfl, ?_⟩
  show vc _ _ _ _ ⟨[(0, .dat (sl_iN a0))], []⟩ _
  unfold f40 at hF
  repeat' (first
    | ((with_reducible refine q0 _ _ ?_); clear Q q0 q1 q2)
    | ((with_reducible refine q1 _ _ _ _ ?_); clear Q q0 q1 q2)
    | ((with_reducible refine q2 _ _ _ ?_); clear Q q0 q1 q2)
    | ((with_reducible refine seq_op ?hx (fun Q q0 q1 q2 => ?_)); (case hx => exact rfl); conv => whnf)
    | ((with_reducible refine draw_op ?hx (fun Q q0 q1 q2 => ?_)); (case hx => exact rfl); conv => whnf)
    | ((with_reducible refine cond_id ?_); (first | ((refine condKT rfl ?hy ?_); (case hy => first | assumption | exact notT (by assumption) | exact rfl)) | ((refine condKF rfl ?hy ?_); (case hy => first | assumption | exact notF (by assumption) | exact rfl)) | (revert hF; (with_reducible refine condF ?hx ?_ ?_); (case hx => exact rfl); all_goals (intro hc hF))))
    | ((with_reducible refine seq_nil ?_); (first | ((with_reducible refine hR _ ?_); clear R hR) | ((with_reducible refine hL _ ?_); clear L hL)))
    | ((with_reducible refine draw_nil ?_); (with_reducible refine hR _ _ ?hx ?_); (case hx => kernel_rfl); (first | clear R hR | clear hR))
    | ((with_reducible refine int_step ?_); conv => whnf)
    | ((with_reducible refine len_step ?_); conv => whnf)
    | ((with_reducible refine idx2 (by assumption) ?_); conv => whnf)
    | ((with_reducible refine idx3 (by assumption) ?_); conv => whnf)
    | with_reducible refine vc_block ?_
    | with_reducible refine vc_skip ?_
    | with_reducible refine vc_ret ?_
    | with_reducible refine vc_exit ?_
    | ((with_reducible refine vc_seqN [6] ?hx ?_); (case hx => exact rfl))
    | (with_reducible refine vc_region (fun R hR => ?_))
    | ((with_reducible refine vc_draw ?hx (fun R hR => ?_)); (case hx => exact rfl))
    | fail
    | (revert hF; (refine Cf40_c6 rfl rfl ?_ ?_); (intro hF); rotate_left; (intro out3 hF; unfold f40_c6 at hF); rotate_right)
    | exact Zf40_c6 hF ⟨_, rfl, rfl, rfl, rfl⟩ (by first | exact rfl | assumption | omega)
    | (revert hF; (refine Lf40_3 rfl ⟨_, rfl, rfl, rfl, rfl⟩ (by first | exact rfl | assumption | omega) ?_); intro n out3 i4 hF; unfold f40_3b at hF)
    | exact Mf40_3 hF ⟨_, rfl, rfl, rfl, rfl⟩ (by first | exact rfl | assumption | omega)
    | with_reducible refine k_seq_ret ?_
    | with_reducible refine k_seq_exit ?_
    | with_reducible refine k_blk ?_
    | with_reducible refine k_blk_ret ?_
    | with_reducible refine k_blk_here ?_
    | ((with_reducible refine k_blk_out ?hx ?_); (case hx => exact rfl))
    | with_reducible refine k_loop_ret ?_
    | with_reducible refine k_loop_exit ?_
    | (revert hF; (with_reducible refine idx1 ?hn ?_); (case hn => first | exact rfl | exact (List.length_map _) | assumption | omega | simp); intro x hx hF; conv => whnf)
    | ((with_reducible have hG := app_fact hF); clear hF; (first | ((refine app_row hG ?hn ?hs (fun q hF => ?_)); (case hn => first | exact rfl | assumption | omega); (case hs => exact rfl)) | ((refine app_nil (d := Kind.d) hG ?hs (fun q hF => ?_)); (case hs => exact rfl)) | ((refine app_gen (d := Kind.d) hG ?ho ?hn ?hs (fun q hF => ?_)); (case ho => exact rfl); (case hn => exact rfl); (case hs => exact rfl))); clear hG; conv => whnf)
    | ((refine row_all ?hn ?_); (case hn => first | exact rfl | (simp; done) | (simp; omega)); conv => whnf)
    | ((with_reducible refine le_step ?hn ?_); (case hn => first | exact rfl | assumption | omega); conv => whnf)
    | ((refine ⟨?hx, ?_⟩); (case hx => exact ⟨rfl, Nat.le_of_ble_eq_true rfl, rfl⟩); conv => whnf)
    | ((with_reducible refine ex_step ?_); conv => whnf)
    | ((with_reducible refine both_T ?hx ?_); (case hx => first | exact rfl | assumption | exact notT (by assumption)); conv => whnf)
    | ((with_reducible refine both_F ?hx ?_); (case hx => first | exact rfl | assumption | exact notF (by assumption)); conv => whnf)
    | (revert hF; (with_reducible refine ite_step ?_ ?_) <;> (intro hc hF; conv => whnf))
    | ((with_reducible refine vc_condT ?hx ?_); (case hx => exact rfl))
    | ((with_reducible refine vc_condF ?hx ?_); (case hx => exact rfl))
    | (show retD _ _ _ _ _ _; conv => whnf)
    | ((refine ⟨?hx, trivial⟩); (case hx => (cases hF; exact rfl)))
    | ((refine ⟨?hx, ?_⟩); (case hx => decide); conv => whnf)
    | ((with_reducible refine k_seq ?_))
    | (have hF : (none : Option _) = some _ := hF; cases hF))
end
end Go.Vc
namespace Go.Vc
open Go.Proofs
set_option linter.unusedVariables false
set_option linter.unnecessarySimpa false
set_option linter.unusedSimpArgs false
section
variable {c : Ctx} {p nid : Nat} {a b : Code} {st : St} {K : Ex → St → Prop}
/- f41: tusche/tuschelaw06.L -/
def f41 (N : Nat) : Option (Layout) :=
 (f42 N [(0 : Int), (0 : Int), (2 : Int), (4 : Int), (2 : Int), (0 : Int), (4 : Int), (2 : Int), (2 : Int), (2 : Int), (2 : Int), (2 : Int), (4 : Int), (2 : Int), (2 : Int), (2 : Int)]).bind fun x1 =>
 some ((Layout.mk (6 : Int) (4 : Int) x1))
def G41 (ds : List D) (d : D) : Prop := ∃ (N : Nat) (r : Layout), ds = [] ∧ f41 N  = some r ∧ d = Layout.d r
theorem G41.step {N : Nat} {ρ : Type} {A : Layout → Option ρ} {q : ρ} {ds : List D} {K : D → Prop} (hd : ds = []) (h : ∀ r, A r = some q → K (Layout.d r)) (hF : (f41 N ).bind A = some q) : ∃ d, G41 ds d ∧ K d := by
  obtain ⟨r, hr, hA⟩ := bind_some hF
  exact ⟨_, ⟨N, r, hd, hr, rfl⟩, h r hA⟩
set_option maxRecDepth 20000 in
set_option maxHeartbeats 4000000 in
theorem P41 : PureOK Try.prog 41 G41 := by
  refine pure_of_vc (c := mkCtx tyTree [(42, true, purePg [[1]] G42)]) rfl tyOK (ctx_cons (callable Try.func42 rfl rfl) P42 (ctx_nil)) [[0, 0, 4]] 0 Try.func41 rfl rfl (by decide) (by kernel_rfl) ?_
  rintro ds d ⟨N, r, rfl, hF, rfl⟩ hok
  clear hok
  refine ⟨rfl, ?_⟩
  show vc _ _ _ _ ⟨[], []⟩ _
  unfold f41 at hF
  repeat' (first
    | ((with_reducible refine q0 _ _ ?_); clear Q q0 q1 q2)
    | ((with_reducible refine q1 _ _ _ _ ?_); clear Q q0 q1 q2)
    | ((with_reducible refine q2 _ _ _ ?_); clear Q q0 q1 q2)
    | ((with_reducible refine seq_op ?hx (fun Q q0 q1 q2 => ?_)); (case hx => exact rfl); conv => whnf)
    | ((with_reducible refine seq_op0 ?hx (fun Q q0 q1 q2 => ?_)); (case hx => exact rfl); conv => whnf)
    | ((with_reducible refine seq_nil ?_); (first | ((with_reducible refine hR _ ?_); clear R hR) | ((with_reducible refine hL _ ?_); clear L hL)))
    | ((with_reducible refine int_step ?_); conv => whnf)
    | with_reducible refine vc_skip ?_
    | with_reducible refine vc_ret ?_
    | ((with_reducible refine vc_seqN [] ?hx ?_); (case hx => exact rfl))
    | (with_reducible refine vc_region (fun R hR => ?_))
    | fail
    | (revert hF; (with_reducible refine G42.step ?hx ?_); (case hx => exact rfl); intro v hF; conv => whnf)
    | with_reducible refine k_seq_ret ?_
    | ((refine row_all ?hn ?_); (case hn => first | exact rfl | (simp; done) | (simp; omega)); conv => whnf)
    | ((with_reducible refine le_step ?hn ?_); (case hn => first | exact rfl | assumption | omega); conv => whnf)
    | ((refine ⟨?hx, ?_⟩); (case hx => exact ⟨rfl, Nat.le_of_ble_eq_true rfl, rfl⟩); conv => whnf)
    | ((with_reducible refine ex_step ?_); conv => whnf)
    | ((with_reducible refine both_T ?hx ?_); (case hx => first | exact rfl | assumption | exact notT (by assumption)); conv => whnf)
    | ((with_reducible refine both_F ?hx ?_); (case hx => first | exact rfl | assumption | exact notF (by assumption)); conv => whnf)
    | (revert hF; (with_reducible refine ite_step ?_ ?_) <;> (intro hc hF; conv => whnf))
    | (show retD _ _ _ _ _ _; conv => whnf)
    | ((refine ⟨?hx, trivial⟩); (case hx => (cases hF; exact rfl)))
    | ((refine ⟨?hx, ?_⟩); (case hx => decide); conv => whnf)
    | ((with_reducible refine k_seq ?_))
    | (have hF : (none : Option _) = some _ := hF; cases hF))
end
end Go.Vc
namespace Go.Vc
open Go.Proofs
set_option linter.unusedVariables false
set_option linter.unnecessarySimpa false
set_option linter.unusedSimpArgs false
section
variable {c : Ctx} {p nid : Nat} {a b : Code} {st : St} {K : Ex → St → Prop}
/- f43: tusche/tuschelaw06.cuts -/
def f43_c8 : Option (Bool) :=
 some (true)
def Sf43_c8 : Ann := ⟨[], [], [], []⟩
def Vf43_c8 : List SV := []
def Bf43_c8 : List Blk := []
def Yf43_c8 (y : Unit) : List SV := Vf43_c8
def Xf43_c8 (y : Unit) : List Blk := Bf43_c8
def Jf43_c8 (r : Bool) (y : Unit) : Prop := f43_c8 = some r
theorem Cf43_c8 {r : Bool} {g : _ → Option (Bool)} (hn : Nat.beq (nid * 1000 + firstRegion b) 8 = true) (hz : Sf43_c8.ok p = true) (h : g f43_c8 = some r → vc c p nid a st (KHead Sf43_c8 Yf43_c8 Xf43_c8 (Jf43_c8 r) K)) (h2 : ∀ (_ : Unit), f43_c8 = some r → vc c p nid b (St.mk' Sf43_c8 Vf43_c8 Bf43_c8) K) (hF : joinK f43_c8 g = some r) : vc c p nid (.seq a b) st K :=
  vc_cut Sf43_c8 Yf43_c8 Xf43_c8 (Jf43_c8 r) hz (h hF) fun y hy => h2 () hy
theorem Zf43_c8 {r : Bool} (hF : f43_c8 = some r) (h0 : AtH Sf43_c8 st Vf43_c8 Bf43_c8) : KHead Sf43_c8 Yf43_c8 Xf43_c8 (Jf43_c8 r) K .normal st := by
  exact khead (I := (Jf43_c8 r)) (x := ()) hF h0
def f43_4b (r4 : Int → Option (Bool)) (a0 : List Cut) (a1 : List Cut) (k0 : Option (Bool)) (i5 : Int) : Option (Bool) :=
 bif decide (i5 < (List.length a0 : Int)) then ((ix a0 i5).bind fun x1 =>
 (ix a1 i5).bind fun x2 =>
 bif !((x1.Up == x2.Up) && (decide (x1.At = x2.At) && true)) then (some (false))
 else (r4 (W (i5 + (1 : Int)))))
 else k0
def f43_4 (a0 : List Cut) (a1 : List Cut) (k0 : Option (Bool)) : Nat → Int → Option (Bool)
  | 0, _ => none
  | n + 1, i5 => f43_4b (f43_4 a0 a1 k0 n) a0 a1 k0 i5
def Sf43_4 : Ann := ⟨[0, 1, 5], [], [], []⟩
def Vf43_4 (a0 : List Cut) (a1 : List Cut) (i5 : Int) : List SV := [.dat (sl_Cut a0), .dat (sl_Cut a1), .dat (iN i5)]
def Bf43_4 (a0 : List Cut) (a1 : List Cut) (i5 : Int) : List Blk := []
def Yf43_4 (a0 : List Cut) (a1 : List Cut) (y : Nat × Int) : List SV := Vf43_4 a0 a1 y.2
def Xf43_4 (a0 : List Cut) (a1 : List Cut) (y : Nat × Int) : List Blk := Bf43_4 a0 a1 y.2
def Jf43_4 (a0 : List Cut) (a1 : List Cut) (k0 : Option (Bool)) (r : Bool) (y : Nat × Int) : Prop := f43_4 a0 a1 k0 y.1 y.2 = some r
theorem Lf43_4 {r : Bool} {a0 : List Cut} {a1 : List Cut} {k0 : Option (Bool)} {fu : Nat} {i5 : Int} (hz : Sf43_4.ok p = true) (h0 : AtH Sf43_4 st (Vf43_4 a0 a1 i5) (Bf43_4 a0 a1 i5)) (h : ∀ (n : Nat) (i5 : Int), f43_4b (f43_4 a0 a1 k0 n) a0 a1 k0 i5 = some r → vc c p nid a (St.mk' Sf43_4 (Vf43_4 a0 a1 i5) (Bf43_4 a0 a1 i5)) (Kloop Sf43_4 (Yf43_4 a0 a1) (Xf43_4 a0 a1) (Jf43_4 a0 a1 k0 r) Prod.fst (n + 1, i5) K)) (hF : f43_4 a0 a1 k0 fu i5 = some r) : vc c p nid (.loop a) st K := by
  refine vc_loop Sf43_4 (Yf43_4 a0 a1) (Xf43_4 a0 a1) (Jf43_4 a0 a1 k0 r) Prod.fst hz (kheadL (x := (fu, i5)) hF h0) ?_
  rintro ⟨_ | n, i5⟩ hI
  · cases hI
  · exact h n i5 hI
theorem Mf43_4 {r : Bool} {a0 : List Cut} {a1 : List Cut} {k0 : Option (Bool)} {n : Nat} {i5 : Int} {i5_ : Int} (hF : f43_4 a0 a1 k0 n i5 = some r) (h0 : AtH Sf43_4 st (Vf43_4 a0 a1 i5) (Bf43_4 a0 a1 i5)) : Kloop Sf43_4 (Yf43_4 a0 a1) (Xf43_4 a0 a1) (Jf43_4 a0 a1 k0 r) Prod.fst (n + 1, i5_) K .normal st := by
  exact kback (y := (n, i5)) hF (Nat.lt_succ_self n) h0
def f43 (N : Nat) (a0 : List Cut) (a1 : List Cut) : Option (Bool) :=
 bif decide (¬ (List.length a0 : Int) = (List.length a1 : Int)) then (some (false))
 else (joinK f43_c8 fun k0 =>
 f43_4 a0 a1 k0 N (0 : Int))
def G43 (ds : List D) (d : D) : Prop := ∃ (N : Nat) (a0 : List Cut) (a1 : List Cut) (r : Bool), ds = [sl_Cut a0, sl_Cut a1] ∧ f43 N a0 a1 = some r ∧ d = bN r
theorem G43.step {N : Nat} {a0 : List Cut} {a1 : List Cut} {ρ : Type} {A : Bool → Option ρ} {q : ρ} {ds : List D} {K : D → Prop} (hd : ds = [sl_Cut a0, sl_Cut a1]) (h : ∀ r, A r = some q → K (bN r)) (hF : (f43 N a0 a1).bind A = some q) : ∃ d, G43 ds d ∧ K d := by
  obtain ⟨r, hr, hA⟩ := bind_some hF
  exact ⟨_, ⟨N, a0, a1, r, hd, hr, rfl⟩, h r hA⟩
set_option maxRecDepth 20000 in
set_option maxHeartbeats 4000000 in
theorem P43 : PureOK Try.prog 43 G43 := by
  refine pure_of_vc (c := mkCtx tyTree []) rfl tyOK (ctx_nil) [[0]] 2 Try.func43 rfl rfl (by decide) (by kernel_rfl) ?_
  rintro ds d ⟨N, a0, a1, r, rfl, hF, rfl⟩ hok
  clear hok
  refine ⟨rfl, ?_⟩
  show vc _ _ _ _ ⟨[(0, .dat (sl_Cut a0)), (1, .dat (sl_Cut a1))], []⟩ _
  unfold f43 at hF
  repeat' (first
    | ((with_reducible refine q0 _ _ ?_); clear Q q0 q1 q2)
    | ((with_reducible refine q1 _ _ _ _ ?_); clear Q q0 q1 q2)
    | ((with_reducible refine q2 _ _ _ ?_); clear Q q0 q1 q2)
    | ((with_reducible refine seq_op ?hx (fun Q q0 q1 q2 => ?_)); (case hx => exact rfl); conv => whnf)
    | ((with_reducible refine draw_op ?hx (fun Q q0 q1 q2 => ?_)); (case hx => exact rfl); conv => whnf)
    | ((with_reducible refine cond_id ?_); (first | ((refine condKT rfl ?hy ?_); (case hy => first | assumption | exact notT (by assumption) | exact rfl)) | ((refine condKF rfl ?hy ?_); (case hy => first | assumption | exact notF (by assumption) | exact rfl)) | (revert hF; (with_reducible refine condF ?hx ?_ ?_); (case hx => exact rfl); all_goals (intro hc hF))))
    | ((with_reducible refine seq_nil ?_); (first | ((with_reducible refine hR _ ?_); clear R hR) | ((with_reducible refine hL _ ?_); clear L hL)))
    | ((with_reducible refine draw_nil ?_); (with_reducible refine hR _ _ ?hx ?_); (case hx => kernel_rfl); (first | clear R hR | clear hR))
    | ((with_reducible refine int_step ?_); conv => whnf)
    | ((with_reducible refine len_step ?_); conv => whnf)
    | ((with_reducible refine idx2 (by assumption) ?_); conv => whnf)
    | ((with_reducible refine idx3 (by assumption) ?_); conv => whnf)
    | with_reducible refine vc_block ?_
    | with_reducible refine vc_skip ?_
    | with_reducible refine vc_ret ?_
    | with_reducible refine vc_exit ?_
    | ((with_reducible refine vc_seqN [8] ?hx ?_); (case hx => exact rfl))
    | (with_reducible refine vc_region (fun R hR => ?_))
    | ((with_reducible refine vc_draw ?hx (fun R hR => ?_)); (case hx => exact rfl))
    | fail
    | (revert hF; (refine Cf43_c8 rfl rfl ?_ ?_); (intro hF); rotate_left; (intro _ hF; unfold f43_c8 at hF); rotate_right)
    | exact Zf43_c8 hF ⟨_, rfl, rfl, rfl, rfl⟩
    | (revert hF; (refine Lf43_4 rfl ⟨_, rfl, rfl, rfl, rfl⟩ ?_); intro n i5 hF; unfold f43_4b at hF)
    | exact Mf43_4 hF ⟨_, rfl, rfl, rfl, rfl⟩
    | with_reducible refine k_seq_ret ?_
    | with_reducible refine k_seq_exit ?_
    | with_reducible refine k_blk ?_
    | with_reducible refine k_blk_ret ?_
    | with_reducible refine k_blk_here ?_
    | ((with_reducible refine k_blk_out ?hx ?_); (case hx => exact rfl))
    | with_reducible refine k_loop_ret ?_
    | with_reducible refine k_loop_exit ?_
    | (revert hF; (with_reducible refine idx1 ?hn ?_); (case hn => first | exact rfl | exact (List.length_map _) | assumption | omega | simp); intro x hx hF; conv => whnf)
    | ((refine row_all ?hn ?_); (case hn => first | exact rfl | (simp; done) | (simp; omega)); conv => whnf)
    | ((with_reducible refine le_step ?hn ?_); (case hn => first | exact rfl | assumption | omega); conv => whnf)
    | ((refine ⟨?hx, ?_⟩); (case hx => exact ⟨rfl, Nat.le_of_ble_eq_true rfl, rfl⟩); conv => whnf)
    | ((with_reducible refine ex_step ?_); conv => whnf)
    | ((with_reducible refine both_T ?hx ?_); (case hx => first | exact rfl | assumption | exact notT (by assumption)); conv => whnf)
    | ((with_reducible refine both_F ?hx ?_); (case hx => first | exact rfl | assumption | exact notF (by assumption)); conv => whnf)
    | (revert hF; (with_reducible refine ite_step ?_ ?_) <;> (intro hc hF; conv => whnf))
    | ((with_reducible refine vc_condT ?hx ?_); (case hx => exact rfl))
    | ((with_reducible refine vc_condF ?hx ?_); (case hx => exact rfl))
    | (show retD _ _ _ _ _ _; conv => whnf)
    | ((refine ⟨?hx, trivial⟩); (case hx => (cases hF; exact rfl)))
    | ((refine ⟨?hx, ?_⟩); (case hx => decide); conv => whnf)
    | ((with_reducible refine k_seq ?_))
    | (have hF : (none : Option _) = some _ := hF; cases hF))
end
end Go.Vc
namespace Go.Vc
open Go.Proofs
set_option linter.unusedVariables false
set_option linter.unnecessarySimpa false
set_option linter.unusedSimpArgs false
section
variable {c : Ctx} {p nid : Nat} {a b : Code} {st : St} {K : Ex → St → Prop}
/- f13: tusche/tuschelaw06.works -/
def f13 (N : Nat) : Option (Bool) :=
 (f41 N ).bind fun x1 =>
 (f15 N x1).bind fun x2 =>
 (f41 N ).bind fun x3 =>
 (f22 N x3).bind fun x4 =>
 (f39 N ).bind fun x5 =>
 (f22 N x5).bind fun x6 =>
 (f39 N ).bind fun x7 =>
 (f24 N x7).bind fun x8 =>
 (f40 N [(2 : Int), (2 : Int), (3 : Int), (3 : Int), (1 : Int), (2 : Int)]).bind fun x9 =>
 (f29 N (5 : Int) (4 : Int) x9).bind fun x10 =>
 (f41 N ).bind fun x11 =>
 (f40 N [(2 : Int), (2 : Int), (3 : Int), (2 : Int), (4 : Int), (5 : Int), (4 : Int), (2 : Int), (1 : Int)]).bind fun x12 =>
 (f17 N x11 x12).bind fun x13 =>
 (f40 N [(2 : Int), (2 : Int), (3 : Int), (3 : Int), (1 : Int), (2 : Int)]).bind fun x14 =>
 (f31 N (5 : Int) (4 : Int) x14).bind fun x15 =>
 bif decide (¬ x2.2 = (0 : Int)) then (some (false))
 else (bif decide (¬ x4.2 = (0 : Int)) then (some (false))
 else (bif decide (¬ x6.2 = (14 : Int)) then (some (false))
 else (bif decide (¬ x8.2 = (0 : Int)) then (some (false))
 else (bif decide (¬ x10.2 = (0 : Int)) then (some (false))
 else (bif decide (¬ x13.2 = (0 : Int)) then (some (false))
 else (bif decide (¬ x15.2 = (0 : Int)) then (some (false))
 else ((f40 N [(2 : Int), (2 : Int), (3 : Int), (3 : Int), (1 : Int), (2 : Int)]).bind fun x16 =>
 (f17 N x15.1 x16).bind fun x17 =>
 bif decide (x17.2 = (0 : Int)) then (bif decide (x17.1 = (14 : Int)) then ((f43 N x2.1 [(Cut.mk true (2 : Int))]).bind fun x18 =>
 bif x18 then (bif decide ((List.length x4.1 : Int) = (3 : Int)) then ((f41 N ).bind fun x19 =>
 (f25 N x19 x4.1).bind fun x20 =>
 bif decide (x20 = (0 : Int)) then (bif (decide (x8.1.X = (0 : Int)) && (decide (x8.1.Y = (0 : Int)) && (decide (x8.1.W = (3 : Int)) && (decide (x8.1.H = (3 : Int)) && true)))) then (bif decide (x10.1 = (14 : Int)) then (bif decide (x13.1 = (12 : Int)) then ((f41 N ).bind fun x21 =>
 (f25 N x21 [(Cut.mk true (2 : Int)), (Cut.mk false (2 : Int))]).bind fun x22 =>
 bif decide (x22 = (22 : Int)) then ((f41 N ).bind fun x23 =>
 (f25 N x23 [(Cut.mk true (3 : Int))]).bind fun x24 =>
 some (decide (x24 = (13 : Int))))
 else (some (false)))
 else (some (false)))
 else (some (false)))
 else (some (false)))
 else (some (false)))
 else (some (false)))
 else (some (false)))
 else (some (false)))
 else (some (false)))))))))
def G13 (ds : List D) (d : D) : Prop := ∃ (N : Nat) (r : Bool), ds = [] ∧ f13 N  = some r ∧ d = bN r
theorem G13.step {N : Nat} {ρ : Type} {A : Bool → Option ρ} {q : ρ} {ds : List D} {K : D → Prop} (hd : ds = []) (h : ∀ r, A r = some q → K (bN r)) (hF : (f13 N ).bind A = some q) : ∃ d, G13 ds d ∧ K d := by
  obtain ⟨r, hr, hA⟩ := bind_some hF
  exact ⟨_, ⟨N, r, hd, hr, rfl⟩, h r hA⟩
set_option maxRecDepth 20000 in
set_option maxHeartbeats 4000000 in
theorem P13 : PureOK Try.prog 13 G13 := by
  refine pure_of_vc (c := mkCtx tyTree [(43, true, purePg [[2], [2]] G43), (41, true, purePg [] G41), (40, true, purePg [[1]] G40), (39, true, purePg [] G39), (31, true, purePg [[0], [0], [3]] G31), (29, true, purePg [[0], [0], [3]] G29), (25, true, purePg [[0, 0, 4], [2]] G25), (24, true, purePg [[0, 0, 4]] G24), (22, true, purePg [[0, 0, 4]] G22), (17, true, purePg [[0, 0, 4], [3]] G17), (15, true, purePg [[0, 0, 4]] G15)]) rfl tyOK (ctx_cons (callable Try.func43 rfl rfl) P43 (ctx_cons (callable Try.func41 rfl rfl) P41 (ctx_cons (callable Try.func40 rfl rfl) P40 (ctx_cons (callable Try.func39 rfl rfl) P39 (ctx_cons (callable Try.func31 rfl rfl) P31 (ctx_cons (callable Try.func29 rfl rfl) P29 (ctx_cons (callable Try.func25 rfl rfl) P25 (ctx_cons (callable Try.func24 rfl rfl) P24 (ctx_cons (callable Try.func22 rfl rfl) P22 (ctx_cons (callable Try.func17 rfl rfl) P17 (ctx_cons (callable Try.func15 rfl rfl) P15 (ctx_nil)))))))))))) [[0]] 0 Try.func13 rfl rfl (by decide) (by kernel_rfl) ?_
  rintro ds d ⟨N, r, rfl, hF, rfl⟩ hok
  clear hok
  refine ⟨rfl, ?_⟩
  show vc _ _ _ _ ⟨[], []⟩ _
  unfold f13 at hF
  repeat' (first
    | ((with_reducible refine q0 _ _ ?_); clear Q q0 q1 q2)
    | ((with_reducible refine q1 _ _ _ _ ?_); clear Q q0 q1 q2)
    | ((with_reducible refine q2 _ _ _ ?_); clear Q q0 q1 q2)
    | ((with_reducible refine seq_op ?hx (fun Q q0 q1 q2 => ?_)); (case hx => exact rfl); conv => whnf)
    | ((with_reducible refine draw_op ?hx (fun Q q0 q1 q2 => ?_)); (case hx => exact rfl); conv => whnf)
    | ((with_reducible refine seq_op0 ?hx (fun Q q0 q1 q2 => ?_)); (case hx => exact rfl); conv => whnf)
    | ((with_reducible refine draw_op0 ?hx (fun Q q0 q1 q2 => ?_)); (case hx => exact rfl); conv => whnf)
    | ((with_reducible refine seq_off ?hx ?_); (case hx => exact rfl))
    | ((with_reducible refine seq_off0 ?hx ?_); (case hx => exact rfl))
    | ((with_reducible refine draw_off ?hx ?_); (case hx => exact rfl))
    | ((with_reducible refine draw_off0 ?hx ?_); (case hx => exact rfl))
    | ((with_reducible refine seq_id ?_); (first | ((refine seq_opK rfl ?hy (fun Q q0 q1 q2 => ?_)); (case hy => first | assumption | exact notT (by assumption) | exact rfl); conv => whnf) | ((refine seq_offK rfl ?hy ?_); (case hy => first | assumption | exact notF (by assumption) | exact rfl)) | ((refine seq_opK0 rfl ?hy (fun Q q0 q1 q2 => ?_)); (case hy => first | assumption | exact notT (by assumption) | exact rfl); conv => whnf) | ((refine seq_offK0 rfl ?hy ?_); (case hy => first | assumption | exact notF (by assumption) | exact rfl)) | (revert hF; (with_reducible refine seq_opF ?hx ?_ ?_); (case hx => exact rfl); (intro hc hF Q q0 q1 q2; conv => whnf); rotate_left; (intro hc hF); rotate_right) | (revert hF; (with_reducible refine seq_opN ?hx ?_ ?_); (case hx => exact rfl); (intro hc hF); rotate_left; (intro hc hF Q q0 q1 q2; conv => whnf); rotate_right) | (revert hF; (with_reducible refine seq_opF0 ?hx ?_ ?_); (case hx => exact rfl); (intro hc hF Q q0 q1 q2; conv => whnf); rotate_left; (intro hc hF); rotate_right) | (revert hF; (with_reducible refine seq_opN0 ?hx ?_ ?_); (case hx => exact rfl); (intro hc hF); rotate_left; (intro hc hF Q q0 q1 q2; conv => whnf); rotate_right)))
    | ((with_reducible refine draw_id ?_); (first | ((refine draw_opK rfl ?hy (fun Q q0 q1 q2 => ?_)); (case hy => first | assumption | exact notT (by assumption) | exact rfl); conv => whnf) | ((refine draw_offK rfl ?hy ?_); (case hy => first | assumption | exact notF (by assumption) | exact rfl)) | ((refine draw_opK0 rfl ?hy (fun Q q0 q1 q2 => ?_)); (case hy => first | assumption | exact notT (by assumption) | exact rfl); conv => whnf) | ((refine draw_offK0 rfl ?hy ?_); (case hy => first | assumption | exact notF (by assumption) | exact rfl)) | (revert hF; (with_reducible refine draw_opF ?hx ?_ ?_); (case hx => exact rfl); (intro hc hF Q q0 q1 q2; conv => whnf); rotate_left; (intro hc hF); rotate_right) | (revert hF; (with_reducible refine draw_opN ?hx ?_ ?_); (case hx => exact rfl); (intro hc hF); rotate_left; (intro hc hF Q q0 q1 q2; conv => whnf); rotate_right) | (revert hF; (with_reducible refine draw_opF0 ?hx ?_ ?_); (case hx => exact rfl); (intro hc hF Q q0 q1 q2; conv => whnf); rotate_left; (intro hc hF); rotate_right) | (revert hF; (with_reducible refine draw_opN0 ?hx ?_ ?_); (case hx => exact rfl); (intro hc hF); rotate_left; (intro hc hF Q q0 q1 q2; conv => whnf); rotate_right)))
    | ((with_reducible refine cond_id ?_); (first | ((refine condKT rfl ?hy ?_); (case hy => first | assumption | exact notT (by assumption) | exact rfl)) | ((refine condKF rfl ?hy ?_); (case hy => first | assumption | exact notF (by assumption) | exact rfl)) | (revert hF; (with_reducible refine condF ?hx ?_ ?_); (case hx => exact rfl); all_goals (intro hc hF))))
    | ((with_reducible refine seq_nil ?_); (first | ((with_reducible refine hR _ ?_); clear R hR) | ((with_reducible refine hL _ ?_); clear L hL)))
    | ((with_reducible refine draw_nil ?_); (with_reducible refine hR _ _ ?hx ?_); (case hx => kernel_rfl); (first | clear R hR | clear hR))
    | ((with_reducible refine int_step ?_); conv => whnf)
    | ((with_reducible refine len_step ?_); conv => whnf)
    | with_reducible refine vc_block ?_
    | with_reducible refine vc_skip ?_
    | with_reducible refine vc_ret ?_
    | with_reducible refine vc_exit ?_
    | ((with_reducible refine vc_seqN [] ?hx ?_); (case hx => exact rfl))
    | (with_reducible refine vc_region (fun R hR => ?_))
    | ((with_reducible refine vc_draw ?hx (fun R hR => ?_)); (case hx => exact rfl))
    | fail
    | (revert hF; (with_reducible refine G15.step ?hx ?_); (case hx => exact rfl); intro v hF; conv => whnf)
    | (revert hF; (with_reducible refine G17.step ?hx ?_); (case hx => exact rfl); intro v hF; conv => whnf)
    | (revert hF; (with_reducible refine G22.step ?hx ?_); (case hx => exact rfl); intro v hF; conv => whnf)
    | (revert hF; (with_reducible refine G24.step ?hx ?_); (case hx => exact rfl); intro v hF; conv => whnf)
    | (revert hF; (with_reducible refine G25.step ?hx ?_); (case hx => exact rfl); intro v hF; conv => whnf)
    | (revert hF; (with_reducible refine G29.step ?hx ?_); (case hx => exact rfl); intro v hF; conv => whnf)
    | (revert hF; (with_reducible refine G31.step ?hx ?_); (case hx => exact rfl); intro v hF; conv => whnf)
    | (revert hF; (with_reducible refine G39.step ?hx ?_); (case hx => exact rfl); intro v hF; conv => whnf)
    | (revert hF; (with_reducible refine G40.step ?hx ?_); (case hx => exact rfl); intro v hF; conv => whnf)
    | (revert hF; (with_reducible refine G41.step ?hx ?_); (case hx => exact rfl); intro v hF; conv => whnf)
    | (revert hF; (with_reducible refine G43.step ?hx ?_); (case hx => exact rfl); intro v hF; conv => whnf)
    | with_reducible refine k_seq_ret ?_
    | with_reducible refine k_seq_exit ?_
    | with_reducible refine k_blk ?_
    | with_reducible refine k_blk_ret ?_
    | with_reducible refine k_blk_here ?_
    | ((with_reducible refine k_blk_out ?hx ?_); (case hx => exact rfl))
    | ((refine row_all ?hn ?_); (case hn => first | exact rfl | (simp; done) | (simp; omega)); conv => whnf)
    | ((with_reducible refine le_step ?hn ?_); (case hn => first | exact rfl | assumption | omega); conv => whnf)
    | ((refine ⟨?hx, ?_⟩); (case hx => exact ⟨rfl, Nat.le_of_ble_eq_true rfl, rfl⟩); conv => whnf)
    | ((with_reducible refine ex_step ?_); conv => whnf)
    | ((with_reducible refine both_T ?hx ?_); (case hx => first | exact rfl | assumption | exact notT (by assumption)); conv => whnf)
    | ((with_reducible refine both_F ?hx ?_); (case hx => first | exact rfl | assumption | exact notF (by assumption)); conv => whnf)
    | (revert hF; (with_reducible refine ite_step ?_ ?_) <;> (intro hc hF; conv => whnf))
    | ((with_reducible refine vc_condT ?hx ?_); (case hx => exact rfl))
    | ((with_reducible refine vc_condF ?hx ?_); (case hx => exact rfl))
    | (show retD _ _ _ _ _ _; conv => whnf)
    | ((refine ⟨?hx, trivial⟩); (case hx => (cases hF; exact rfl)))
    | ((refine ⟨?hx, ?_⟩); (case hx => decide); conv => whnf)
    | ((with_reducible refine k_seq ?_))
    | (have hF : (none : Option _) = some _ := hF; cases hF))
end
end Go.Vc
namespace Go.Vc
open Go.Proofs
set_option linter.unusedVariables false
set_option linter.unnecessarySimpa false
set_option linter.unusedSimpArgs false
section
variable {c : Ctx} {p nid : Nat} {a b : Code} {st : St} {K : Ex → St → Prop}
/- f36: tusche/tuschelaw06.split -/
def f36_c13 (a4 : List Label) (b5 : List Label) : Option ((List Label) × (List Label) × Bool) :=
 bif decide ((0 : Int) < (List.length a4 : Int)) then (some (a4, b5, decide ((0 : Int) < (List.length b5 : Int))))
 else (some (a4, b5, false))
def Sf36_c13 : Ann := ⟨[4, 5], [90004, 90005], [(.slot 4, 90004, 50, 4), (.slot 5, 90005, 50, 4)], []⟩
def Vf36_c13 (a4 : List Label) (b5 : List Label) : List SV := [.rs 90004 (List.length a4), .rs 90005 (List.length b5)]
def Bf36_c13 (a4 : List Label) (b5 : List Label) : List Blk := [.row 50 4 (List.map Label.d a4), .row 50 4 (List.map Label.d b5)]
def Yf36_c13 (y : (List Label) × (List Label)) : List SV := Vf36_c13 y.1 y.2
def Xf36_c13 (y : (List Label) × (List Label)) : List Blk := Bf36_c13 y.1 y.2
def Jf36_c13 (r : (List Label) × (List Label) × Bool) (y : (List Label) × (List Label)) : Prop := f36_c13 y.1 y.2 = some r
def V2f36_c13 (a4 : List Label) (b5 : List Label) (m0 : Nat) (m1 : Nat) : List SV := [.rs 90004 m0, .rs 90005 m1]
def B2f36_c13 (a4 : List Label) (b5 : List Label) (m0 : Nat) (m1 : Nat) : List Blk := [.row 50 4 (List.map Label.d a4), .row 50 4 (List.map Label.d b5)]
theorem Cf36_c13 {r : (List Label) × (List Label) × Bool} {g : _ → Option ((List Label) × (List Label) × Bool)} (hn : Nat.beq (nid * 1000 + firstRegion b) 13 = true) (hz : Sf36_c13.ok p = true) (h : g f36_c13 = some r → vc c p nid a st (KHead Sf36_c13 Yf36_c13 Xf36_c13 (Jf36_c13 r) K)) (h2 : ∀ (a4 : List Label) (b5 : List Label), f36_c13 a4 b5 = some r → vc c p nid b (St.mk' Sf36_c13 (Vf36_c13 a4 b5) (Bf36_c13 a4 b5)) K) (hF : joinK f36_c13 g = some r) : vc c p nid (.seq a b) st K :=
  vc_cut Sf36_c13 Yf36_c13 Xf36_c13 (Jf36_c13 r) hz (h hF) fun y hy => h2 y.1 y.2 hy
theorem Zf36_c13 {r : (List Label) × (List Label) × Bool} {a4 : List Label} {b5 : List Label} {m0 : Nat} {m1 : Nat} (hF : f36_c13 a4 b5 = some r) (h0 : AtH Sf36_c13 st (V2f36_c13 a4 b5 m0 m1) (B2f36_c13 a4 b5 m0 m1)) (em0 : m0 = List.length a4) (em1 : m1 = List.length b5) : KHead Sf36_c13 Yf36_c13 Xf36_c13 (Jf36_c13 r) K .normal st := by
  subst em0 em1; exact khead (I := (Jf36_c13 r)) (x := (a4, b5)) hF h0
def f36_c8 (a0 : List Label) (a1 : Cut) (a4 : List Label) (b5 : List Label) (v13 : Int) (r2 : (List Label) → (List Label) → Int → Option ((List Label) × (List Label) × Bool)) (x1 : Label) (from9 : Int) (to10 : Int) : Option ((List Label) × (List Label) × Bool) :=
 bif decide (to10 ≤ a1.At) then ((app 32 a4 [x1]).bind fun x2 =>
 r2 x2 b5 (W (v13 + (1 : Int))))
 else (bif decide (a1.At ≤ from9) then ((app 32 b5 [x1]).bind fun x3 =>
 r2 a4 x3 (W (v13 + (1 : Int))))
 else (some ([], [], false)))
def Sf36_c8 : Ann := ⟨[3, 4, 5, 8, 9, 10, 11, 12, 13], [0, 302, 90004, 90005], [], []⟩
def Vf36_c8 (a0 : List Label) (a1 : Cut) (a4 : List Label) (b5 : List Label) (v13 : Int) (x1 : Label) (from9 : Int) (to10 : Int) : List SV := [.ptr 0 0, .rs 90004 (List.length a4), .rs 90005 (List.length b5), .ptr 302 0, .dat (iN from9), .dat (iN to10), .dat (sl_Label a0), .dat (iN (List.length a0 : Int)), .dat (iN v13)]
def Bf36_c8 (a0 : List Label) (a1 : Cut) (a4 : List Label) (b5 : List Label) (v13 : Int) (x1 : Label) (from9 : Int) (to10 : Int) : List Blk := [.box [.kb a1.Up, .dat (iN a1.At)], .box [.dat (iN x1.X), .dat (iN x1.Y), .dat (iN x1.W), .dat (iN x1.H)], .row 50 4 (List.map Label.d a4), .row 50 4 (List.map Label.d b5)]
def Yf36_c8 (a0 : List Label) (a1 : Cut) (a4 : List Label) (b5 : List Label) (v13 : Int) (x1 : Label) (y : Int × Int) : List SV := Vf36_c8 a0 a1 a4 b5 v13 x1 y.1 y.2
def Xf36_c8 (a0 : List Label) (a1 : Cut) (a4 : List Label) (b5 : List Label) (v13 : Int) (x1 : Label) (y : Int × Int) : List Blk := Bf36_c8 a0 a1 a4 b5 v13 x1 y.1 y.2
def Jf36_c8 (a0 : List Label) (a1 : Cut) (a4 : List Label) (b5 : List Label) (v13 : Int) (r2 : (List Label) → (List Label) → Int → Option ((List Label) × (List Label) × Bool)) (x1 : Label) (r : (List Label) × (List Label) × Bool) (y : Int × Int) : Prop := f36_c8 a0 a1 a4 b5 v13 r2 x1 y.1 y.2 = some r
def V2f36_c8 (a0 : List Label) (a1 : Cut) (a4 : List Label) (b5 : List Label) (v13 : Int) (x1 : Label) (from9 : Int) (to10 : Int) (m0 : Nat) (m1 : Nat) : List SV := [.ptr 0 0, .rs 90004 m0, .rs 90005 m1, .ptr 302 0, .dat (iN from9), .dat (iN to10), .dat (sl_Label a0), .dat (iN (List.length a0 : Int)), .dat (iN v13)]
def B2f36_c8 (a0 : List Label) (a1 : Cut) (a4 : List Label) (b5 : List Label) (v13 : Int) (x1 : Label) (from9 : Int) (to10 : Int) (m0 : Nat) (m1 : Nat) : List Blk := [.box [.kb a1.Up, .dat (iN a1.At)], .box [.dat (iN x1.X), .dat (iN x1.Y), .dat (iN x1.W), .dat (iN x1.H)], .row 50 4 (List.map Label.d a4), .row 50 4 (List.map Label.d b5)]
theorem Cf36_c8 {r : (List Label) × (List Label) × Bool} {a0 : List Label} {a1 : Cut} {a4 : List Label} {b5 : List Label} {v13 : Int} {r2 : (List Label) → (List Label) → Int → Option ((List Label) × (List Label) × Bool)} {x1 : Label} {g : _ → Option ((List Label) × (List Label) × Bool)} (hn : Nat.beq (nid * 1000 + firstRegion b) 8 = true) (hz : Sf36_c8.ok p = true) (h : g (f36_c8 a0 a1 a4 b5 v13 r2 x1) = some r → vc c p nid a st (KHead Sf36_c8 (Yf36_c8 a0 a1 a4 b5 v13 x1) (Xf36_c8 a0 a1 a4 b5 v13 x1) (Jf36_c8 a0 a1 a4 b5 v13 r2 x1 r) K)) (h2 : ∀ (from9 : Int) (to10 : Int), f36_c8 a0 a1 a4 b5 v13 r2 x1 from9 to10 = some r → vc c p nid b (St.mk' Sf36_c8 (Vf36_c8 a0 a1 a4 b5 v13 x1 from9 to10) (Bf36_c8 a0 a1 a4 b5 v13 x1 from9 to10)) K) (hF : joinK (f36_c8 a0 a1 a4 b5 v13 r2 x1) g = some r) : vc c p nid (.seq a b) st K :=
  vc_cut Sf36_c8 (Yf36_c8 a0 a1 a4 b5 v13 x1) (Xf36_c8 a0 a1 a4 b5 v13 x1) (Jf36_c8 a0 a1 a4 b5 v13 r2 x1 r) hz (h hF) fun y hy => h2 y.1 y.2 hy
theorem Zf36_c8 {r : (List Label) × (List Label) × Bool} {a0 : List Label} {a1 : Cut} {a4 : List Label} {b5 : List Label} {v13 : Int} {r2 : (List Label) → (List Label) → Int → Option ((List Label) × (List Label) × Bool)} {x1 : Label} {from9 : Int} {to10 : Int} {m0 : Nat} {m1 : Nat} (hF : f36_c8 a0 a1 a4 b5 v13 r2 x1 from9 to10 = some r) (h0 : AtH Sf36_c8 st (V2f36_c8 a0 a1 a4 b5 v13 x1 from9 to10 m0 m1) (B2f36_c8 a0 a1 a4 b5 v13 x1 from9 to10 m0 m1)) (em0 : m0 = List.length a4) (em1 : m1 = List.length b5) : KHead Sf36_c8 (Yf36_c8 a0 a1 a4 b5 v13 x1) (Xf36_c8 a0 a1 a4 b5 v13 x1) (Jf36_c8 a0 a1 a4 b5 v13 r2 x1 r) K .normal st := by
  subst em0 em1; exact khead (I := (Jf36_c8 a0 a1 a4 b5 v13 r2 x1 r)) (x := (from9, to10)) hF h0
def f36_2b (r2 : (List Label) → (List Label) → Int → Option ((List Label) × (List Label) × Bool)) (a0 : List Label) (a1 : Cut) (k0 : (List Label) → (List Label) → Option ((List Label) × (List Label) × Bool)) (a4 : List Label) (b5 : List Label) (v13 : Int) : Option ((List Label) × (List Label) × Bool) :=
 bif decide (v13 < (List.length a0 : Int)) then ((ix a0 v13).bind fun x1 =>
 joinK (f36_c8 a0 a1 a4 b5 v13 r2 x1) fun k1 =>
 bif a1.Up then (k1 x1.X (W (x1.X + x1.W)))
 else (k1 x1.Y (W (x1.Y + x1.H))))
 else (k0 a4 b5)
def f36_2 (a0 : List Label) (a1 : Cut) (k0 : (List Label) → (List Label) → Option ((List Label) × (List Label) × Bool)) : Nat → (List Label) → (List Label) → Int → Option ((List Label) × (List Label) × Bool)
  | 0, _, _, _ => none
  | n + 1, a4, b5, v13 => f36_2b (f36_2 a0 a1 k0 n) a0 a1 k0 a4 b5 v13
def Sf36_2 : Ann := ⟨[3, 4, 5, 11, 12, 13], [0, 90004, 90005], [(.slot 4, 90004, 50, 4), (.slot 5, 90005, 50, 4)], []⟩
def Vf36_2 (a0 : List Label) (a1 : Cut) (a4 : List Label) (b5 : List Label) (v13 : Int) : List SV := [.ptr 0 0, .rs 90004 (List.length a4), .rs 90005 (List.length b5), .dat (sl_Label a0), .dat (iN (List.length a0 : Int)), .dat (iN v13)]
def Bf36_2 (a0 : List Label) (a1 : Cut) (a4 : List Label) (b5 : List Label) (v13 : Int) : List Blk := [.box [.kb a1.Up, .dat (iN a1.At)], .row 50 4 (List.map Label.d a4), .row 50 4 (List.map Label.d b5)]
def Yf36_2 (a0 : List Label) (a1 : Cut) (y : Nat × (List Label) × (List Label) × Int) : List SV := Vf36_2 a0 a1 y.2.1 y.2.2.1 y.2.2.2
def Xf36_2 (a0 : List Label) (a1 : Cut) (y : Nat × (List Label) × (List Label) × Int) : List Blk := Bf36_2 a0 a1 y.2.1 y.2.2.1 y.2.2.2
def Jf36_2 (a0 : List Label) (a1 : Cut) (k0 : (List Label) → (List Label) → Option ((List Label) × (List Label) × Bool)) (r : (List Label) × (List Label) × Bool) (y : Nat × (List Label) × (List Label) × Int) : Prop := f36_2 a0 a1 k0 y.1 y.2.1 y.2.2.1 y.2.2.2 = some r
def V2f36_2 (a0 : List Label) (a1 : Cut) (a4 : List Label) (b5 : List Label) (v13 : Int) (m0 : Nat) (m1 : Nat) : List SV := [.ptr 0 0, .rs 90004 m0, .rs 90005 m1, .dat (sl_Label a0), .dat (iN (List.length a0 : Int)), .dat (iN v13)]
def B2f36_2 (a0 : List Label) (a1 : Cut) (a4 : List Label) (b5 : List Label) (v13 : Int) (m0 : Nat) (m1 : Nat) : List Blk := [.box [.kb a1.Up, .dat (iN a1.At)], .row 50 4 (List.map Label.d a4), .row 50 4 (List.map Label.d b5)]
theorem Lf36_2 {r : (List Label) × (List Label) × Bool} {a0 : List Label} {a1 : Cut} {k0 : (List Label) → (List Label) → Option ((List Label) × (List Label) × Bool)} {fu : Nat} {a4 : List Label} {b5 : List Label} {v13 : Int} {m0 : Nat} {m1 : Nat} (hz : Sf36_2.ok p = true) (h0 : AtH Sf36_2 st (V2f36_2 a0 a1 a4 b5 v13 m0 m1) (B2f36_2 a0 a1 a4 b5 v13 m0 m1)) (em0 : m0 = List.length a4) (em1 : m1 = List.length b5) (h : ∀ (n : Nat) (a4 : List Label) (b5 : List Label) (v13 : Int), f36_2b (f36_2 a0 a1 k0 n) a0 a1 k0 a4 b5 v13 = some r → vc c p nid a (St.mk' Sf36_2 (Vf36_2 a0 a1 a4 b5 v13) (Bf36_2 a0 a1 a4 b5 v13)) (Kloop Sf36_2 (Yf36_2 a0 a1) (Xf36_2 a0 a1) (Jf36_2 a0 a1 k0 r) Prod.fst (n + 1, a4, b5, v13) K)) (hF : f36_2 a0 a1 k0 fu a4 b5 v13 = some r) : vc c p nid (.loop a) st K := by
  subst em0 em1; refine vc_loop Sf36_2 (Yf36_2 a0 a1) (Xf36_2 a0 a1) (Jf36_2 a0 a1 k0 r) Prod.fst hz (kheadL (x := (fu, a4, b5, v13)) hF h0) ?_
  rintro ⟨_ | n, a4, b5, v13⟩ hI
  · cases hI
  · exact h n a4 b5 v13 hI
theorem Mf36_2 {r : (List Label) × (List Label) × Bool} {a0 : List Label} {a1 : Cut} {k0 : (List Label) → (List Label) → Option ((List Label) × (List Label) × Bool)} {n : Nat} {a4 : List Label} {b5 : List Label} {v13 : Int} {a4_ : List Label} {b5_ : List Label} {v13_ : Int} {m0 : Nat} {m1 : Nat} (hF : f36_2 a0 a1 k0 n a4 b5 v13 = some r) (h0 : AtH Sf36_2 st (V2f36_2 a0 a1 a4 b5 v13 m0 m1) (B2f36_2 a0 a1 a4 b5 v13 m0 m1)) (em0 : m0 = List.length a4) (em1 : m1 = List.length b5) : Kloop Sf36_2 (Yf36_2 a0 a1) (Xf36_2 a0 a1) (Jf36_2 a0 a1 k0 r) Prod.fst (n + 1, a4_, b5_, v13_) K .normal st := by
  subst em0 em1; exact kback (y := (n, a4, b5, v13)) hF (Nat.lt_succ_self n) h0
def f36 (N : Nat) (a0 : List Label) (a1 : Cut) : Option ((List Label) × (List Label) × Bool) :=
 joinK f36_c13 fun k0 =>
 f36_2 a0 a1 k0 N [] [] (0 : Int)
def G36 (ds : List D) (d : D) : Prop := ∃ (N : Nat) (a0 : List Label) (a1 : Cut) (r : (List Label) × (List Label) × Bool), ds = [sl_Label a0, Cut.d a1] ∧ f36 N a0 a1 = some r ∧ d = .tup [sl_Label r.1, sl_Label r.2.1, bN r.2.2]
theorem G36.step {N : Nat} {a0 : List Label} {a1 : Cut} {ρ : Type} {A : ((List Label) × (List Label) × Bool) → Option ρ} {q : ρ} {ds : List D} {K : D → Prop} (hd : ds = [sl_Label a0, Cut.d a1]) (h : ∀ r, A r = some q → K (.tup [sl_Label r.1, sl_Label r.2.1, bN r.2.2])) (hF : (f36 N a0 a1).bind A = some q) : ∃ d, G36 ds d ∧ K d := by
  obtain ⟨r, hr, hA⟩ := bind_some hF
  exact ⟨_, ⟨N, a0, a1, r, hd, hr, rfl⟩, h r hA⟩
set_option maxRecDepth 20000 in
set_option maxHeartbeats 4000000 in
theorem P36 : PureOK Try.prog 36 G36 := by
  refine pure_of_vc (c := mkCtx tyTree []) rfl tyOK (ctx_nil) [[4], [4], [0]] 2 Try.func36 rfl rfl (by decide) (by kernel_rfl) ?_
  rintro ds d ⟨N, a0, a1, r, rfl, hF, rfl⟩ hok
  clear hok
  refine ⟨rfl, ?_⟩
  show vc _ _ _ _ ⟨[(0, .dat (sl_Label a0)), (1, .dat (Cut.d a1))], []⟩ _
  unfold f36 at hF
  repeat' (first
    | ((with_reducible refine q0 _ _ ?_); clear Q q0 q1 q2)
    | ((with_reducible refine q1 _ _ _ _ ?_); clear Q q0 q1 q2)
    | ((with_reducible refine q2 _ _ _ ?_); clear Q q0 q1 q2)
    | ((with_reducible refine seq_op ?hx (fun Q q0 q1 q2 => ?_)); (case hx => exact rfl); conv => whnf)
    | ((with_reducible refine draw_op ?hx (fun Q q0 q1 q2 => ?_)); (case hx => exact rfl); conv => whnf)
    | ((with_reducible refine seq_op0 ?hx (fun Q q0 q1 q2 => ?_)); (case hx => exact rfl); conv => whnf)
    | ((with_reducible refine draw_op0 ?hx (fun Q q0 q1 q2 => ?_)); (case hx => exact rfl); conv => whnf)
    | ((with_reducible refine seq_off ?hx ?_); (case hx => exact rfl))
    | ((with_reducible refine seq_off0 ?hx ?_); (case hx => exact rfl))
    | ((with_reducible refine draw_off ?hx ?_); (case hx => exact rfl))
    | ((with_reducible refine draw_off0 ?hx ?_); (case hx => exact rfl))
    | ((with_reducible refine seq_id ?_); (first | ((refine seq_opK rfl ?hy (fun Q q0 q1 q2 => ?_)); (case hy => first | assumption | exact notT (by assumption) | exact rfl); conv => whnf) | ((refine seq_offK rfl ?hy ?_); (case hy => first | assumption | exact notF (by assumption) | exact rfl)) | ((refine seq_opK0 rfl ?hy (fun Q q0 q1 q2 => ?_)); (case hy => first | assumption | exact notT (by assumption) | exact rfl); conv => whnf) | ((refine seq_offK0 rfl ?hy ?_); (case hy => first | assumption | exact notF (by assumption) | exact rfl)) | (revert hF; (with_reducible refine seq_opF ?hx ?_ ?_); (case hx => exact rfl); (intro hc hF Q q0 q1 q2; conv => whnf); rotate_left; (intro hc hF); rotate_right) | (revert hF; (with_reducible refine seq_opN ?hx ?_ ?_); (case hx => exact rfl); (intro hc hF); rotate_left; (intro hc hF Q q0 q1 q2; conv => whnf); rotate_right) | (revert hF; (with_reducible refine seq_opF0 ?hx ?_ ?_); (case hx => exact rfl); (intro hc hF Q q0 q1 q2; conv => whnf); rotate_left; (intro hc hF); rotate_right) | (revert hF; (with_reducible refine seq_opN0 ?hx ?_ ?_); (case hx => exact rfl); (intro hc hF); rotate_left; (intro hc hF Q q0 q1 q2; conv => whnf); rotate_right)))
    | ((with_reducible refine cond_id ?_); (first | ((refine condKT rfl ?hy ?_); (case hy => first | assumption | exact notT (by assumption) | exact rfl)) | ((refine condKF rfl ?hy ?_); (case hy => first | assumption | exact notF (by assumption) | exact rfl)) | (revert hF; (with_reducible refine condF ?hx ?_ ?_); (case hx => exact rfl); all_goals (intro hc hF))))
    | ((with_reducible refine seq_nil ?_); (first | ((with_reducible refine hR _ ?_); clear R hR) | ((with_reducible refine hL _ ?_); clear L hL)))
    | ((with_reducible refine draw_nil ?_); (with_reducible refine hR _ _ ?hx ?_); (case hx => kernel_rfl); (first | clear R hR | clear hR))
    | ((with_reducible refine int_step ?_); conv => whnf)
    | ((with_reducible refine len_step ?_); conv => whnf)
    | ((with_reducible refine idx2 (by assumption) ?_); conv => whnf)
    | ((with_reducible refine idx3 (by assumption) ?_); conv => whnf)
    | with_reducible refine vc_block ?_
    | with_reducible refine vc_skip ?_
    | with_reducible refine vc_ret ?_
    | with_reducible refine vc_exit ?_
    | ((with_reducible refine vc_seqN [13, 8] ?hx ?_); (case hx => exact rfl))
    | (with_reducible refine vc_region (fun R hR => ?_))
    | ((with_reducible refine vc_draw ?hx (fun R hR => ?_)); (case hx => exact rfl))
    | fail
    | (revert hF; (refine Cf36_c13 rfl rfl ?_ ?_); (intro hF); rotate_left; (intro a4 b5 hF; unfold f36_c13 at hF); rotate_right)
    | exact Zf36_c13 hF ⟨_, rfl, rfl, rfl, rfl⟩ (by first | exact rfl | assumption | omega) (by first | exact rfl | assumption | omega)
    | (revert hF; (refine Cf36_c8 rfl rfl ?_ ?_); (intro hF); rotate_left; (intro from9 to10 hF; unfold f36_c8 at hF); rotate_right)
    | exact Zf36_c8 hF ⟨_, rfl, rfl, rfl, rfl⟩ (by first | exact rfl | assumption | omega) (by first | exact rfl | assumption | omega)
    | (revert hF; (refine Lf36_2 rfl ⟨_, rfl, rfl, rfl, rfl⟩ (by first | exact rfl | assumption | omega) (by first | exact rfl | assumption | omega) ?_); intro n a4 b5 v13 hF; unfold f36_2b at hF)
    | exact Mf36_2 hF ⟨_, rfl, rfl, rfl, rfl⟩ (by first | exact rfl | assumption | omega) (by first | exact rfl | assumption | omega)
    | with_reducible refine k_seq_ret ?_
    | with_reducible refine k_seq_exit ?_
    | with_reducible refine k_blk ?_
    | with_reducible refine k_blk_ret ?_
    | with_reducible refine k_blk_here ?_
    | ((with_reducible refine k_blk_out ?hx ?_); (case hx => exact rfl))
    | with_reducible refine k_loop_ret ?_
    | with_reducible refine k_loop_exit ?_
    | (revert hF; (with_reducible refine idx1 ?hn ?_); (case hn => first | exact rfl | exact (List.length_map _) | assumption | omega | simp); intro x hx hF; conv => whnf)
    | ((with_reducible have hG := app_fact hF); clear hF; (first | ((refine app_row hG ?hn ?hs (fun q hF => ?_)); (case hn => first | exact rfl | assumption | omega); (case hs => exact rfl)) | ((refine app_nil (d := Label.d) hG ?hs (fun q hF => ?_)); (case hs => exact rfl)) | ((refine app_gen (d := Label.d) hG ?ho ?hn ?hs (fun q hF => ?_)); (case ho => exact rfl); (case hn => exact rfl); (case hs => exact rfl))); clear hG; conv => whnf)
    | ((refine row_all ?hn ?_); (case hn => first | exact rfl | (simp; done) | (simp; omega)); conv => whnf)
    | ((with_reducible refine le_step ?hn ?_); (case hn => first | exact rfl | assumption | omega); conv => whnf)
    | ((refine ⟨?hx, ?_⟩); (case hx => exact ⟨rfl, Nat.le_of_ble_eq_true rfl, rfl⟩); conv => whnf)
    | ((with_reducible refine ex_step ?_); conv => whnf)
    | ((with_reducible refine both_T ?hx ?_); (case hx => first | exact rfl | assumption | exact notT (by assumption)); conv => whnf)
    | ((with_reducible refine both_F ?hx ?_); (case hx => first | exact rfl | assumption | exact notF (by assumption)); conv => whnf)
    | (revert hF; (with_reducible refine ite_step ?_ ?_) <;> (intro hc hF; conv => whnf))
    | ((with_reducible refine vc_condT ?hx ?_); (case hx => exact rfl))
    | ((with_reducible refine vc_condF ?hx ?_); (case hx => exact rfl))
    | (show retD _ _ _ _ _ _; conv => whnf)
    | ((refine ⟨?hx, trivial⟩); (case hx => (cases hF; exact rfl)))
    | ((refine ⟨?hx, ?_⟩); (case hx => decide); conv => whnf)
    | ((with_reducible refine k_seq ?_))
    | (have hF : (none : Option _) = some _ := hF; cases hF))
end
end Go.Vc
namespace Go.Vc
open Go.Proofs
set_option linter.unusedVariables false
set_option linter.unnecessarySimpa false
set_option linter.unusedSimpArgs false
section
variable {c : Ctx} {p nid : Nat} {a b : Code} {st : St} {K : Ex → St → Prop}
/- f33: tusche/tuschelaw06.apart -/
def f33_c13 : Option (Bool) :=
 some (false)
def Sf33_c13 : Ann := ⟨[], [], [], []⟩
def Vf33_c13 : List SV := []
def Bf33_c13 : List Blk := []
def Yf33_c13 (y : Unit) : List SV := Vf33_c13
def Xf33_c13 (y : Unit) : List Blk := Bf33_c13
def Jf33_c13 (r : Bool) (y : Unit) : Prop := f33_c13 = some r
theorem Cf33_c13 {r : Bool} {g : _ → Option (Bool)} (hn : Nat.beq (nid * 1000 + firstRegion b) 13 = true) (hz : Sf33_c13.ok p = true) (h : g f33_c13 = some r → vc c p nid a st (KHead Sf33_c13 Yf33_c13 Xf33_c13 (Jf33_c13 r) K)) (h2 : ∀ (_ : Unit), f33_c13 = some r → vc c p nid b (St.mk' Sf33_c13 Vf33_c13 Bf33_c13) K) (hF : joinK f33_c13 g = some r) : vc c p nid (.seq a b) st K :=
  vc_cut Sf33_c13 Yf33_c13 Xf33_c13 (Jf33_c13 r) hz (h hF) fun y hy => h2 () hy
theorem Zf33_c13 {r : Bool} (hF : f33_c13 = some r) (h0 : AtH Sf33_c13 st Vf33_c13 Bf33_c13) : KHead Sf33_c13 Yf33_c13 Xf33_c13 (Jf33_c13 r) K .normal st := by
  exact khead (I := (Jf33_c13 r)) (x := ()) hF h0
def f33_c5 (a0 : List Label) (at3 : Int) (r4 : Int → Option (Bool)) : Option (Bool) :=
 r4 (W (at3 + (1 : Int)))
def Sf33_c5 : Ann := ⟨[0, 3], [], [], []⟩
def Vf33_c5 (a0 : List Label) (at3 : Int) : List SV := [.dat (sl_Label a0), .dat (iN at3)]
def Bf33_c5 (a0 : List Label) (at3 : Int) : List Blk := []
def Yf33_c5 (a0 : List Label) (at3 : Int) (y : Unit) : List SV := Vf33_c5 a0 at3
def Xf33_c5 (a0 : List Label) (at3 : Int) (y : Unit) : List Blk := Bf33_c5 a0 at3
def Jf33_c5 (a0 : List Label) (at3 : Int) (r4 : Int → Option (Bool)) (r : Bool) (y : Unit) : Prop := f33_c5 a0 at3 r4 = some r
theorem Cf33_c5 {r : Bool} {a0 : List Label} {at3 : Int} {r4 : Int → Option (Bool)} {g : _ → Option (Bool)} (hn : Nat.beq (nid * 1000 + firstRegion b) 5 = true) (hz : Sf33_c5.ok p = true) (h : g (f33_c5 a0 at3 r4) = some r → vc c p nid a st (KHead Sf33_c5 (Yf33_c5 a0 at3) (Xf33_c5 a0 at3) (Jf33_c5 a0 at3 r4 r) K)) (h2 : ∀ (_ : Unit), f33_c5 a0 at3 r4 = some r → vc c p nid b (St.mk' Sf33_c5 (Vf33_c5 a0 at3) (Bf33_c5 a0 at3)) K) (hF : joinK (f33_c5 a0 at3 r4) g = some r) : vc c p nid (.seq a b) st K :=
  vc_cut Sf33_c5 (Yf33_c5 a0 at3) (Xf33_c5 a0 at3) (Jf33_c5 a0 at3 r4 r) hz (h hF) fun y hy => h2 () hy
theorem Zf33_c5 {r : Bool} {a0 : List Label} {at3 : Int} {r4 : Int → Option (Bool)} (hF : f33_c5 a0 at3 r4 = some r) (h0 : AtH Sf33_c5 st (Vf33_c5 a0 at3) (Bf33_c5 a0 at3)) : KHead Sf33_c5 (Yf33_c5 a0 at3) (Xf33_c5 a0 at3) (Jf33_c5 a0 at3 r4 r) K .normal st := by
  exact khead (I := (Jf33_c5 a0 at3 r4 r)) (x := ()) hF h0
def f33_7b (r7 : Int → Option (Bool)) (a0 : List Label) (N : Nat) (self : (List Label) → Option (Bool)) (at3 : Int) (k1 : Option (Bool)) (v18 : Int) : Option (Bool) :=
 bif decide (v18 < (List.length [false, true] : Int)) then ((ix [false, true] v18).bind fun x1 =>
 (f36 N a0 (Cut.mk x1 at3)).bind fun x2 =>
 bif x2.2.2 then ((self x2.1).bind fun x3 =>
 bif x3 then ((self x2.2.1).bind fun x4 =>
 bif x4 then (some (true))
 else (r7 (W (v18 + (1 : Int)))))
 else (r7 (W (v18 + (1 : Int)))))
 else (r7 (W (v18 + (1 : Int)))))
 else k1
def f33_7 (a0 : List Label) (N : Nat) (self : (List Label) → Option (Bool)) (at3 : Int) (k1 : Option (Bool)) : Nat → Int → Option (Bool)
  | 0, _ => none
  | n + 1, v18 => f33_7b (f33_7 a0 N self at3 k1 n) a0 N self at3 k1 v18
def Sf33_7 : Ann := ⟨[0, 3, 16, 17, 18], [600], [], []⟩
def Vf33_7 (a0 : List Label) (at3 : Int) (v18 : Int) : List SV := [.dat (sl_Label a0), .dat (iN at3), .rs 600 (List.length [false, true]), .dat (iN (List.length [false, true] : Int)), .dat (iN v18)]
def Bf33_7 (a0 : List Label) (at3 : Int) (v18 : Int) : List Blk := [.row 4 1 (List.map bN [false, true])]
def Yf33_7 (a0 : List Label) (at3 : Int) (y : Nat × Int) : List SV := Vf33_7 a0 at3 y.2
def Xf33_7 (a0 : List Label) (at3 : Int) (y : Nat × Int) : List Blk := Bf33_7 a0 at3 y.2
def Jf33_7 (a0 : List Label) (N : Nat) (self : (List Label) → Option (Bool)) (at3 : Int) (k1 : Option (Bool)) (r : Bool) (y : Nat × Int) : Prop := f33_7 a0 N self at3 k1 y.1 y.2 = some r
def V2f33_7 (a0 : List Label) (at3 : Int) (v18 : Int) (m0 : Nat) : List SV := [.dat (sl_Label a0), .dat (iN at3), .rs 600 m0, .dat (iN (List.length [false, true] : Int)), .dat (iN v18)]
def B2f33_7 (a0 : List Label) (at3 : Int) (v18 : Int) (m0 : Nat) : List Blk := [.row 4 1 (List.map bN [false, true])]
theorem Lf33_7 {r : Bool} {a0 : List Label} {N : Nat} {self : (List Label) → Option (Bool)} {at3 : Int} {k1 : Option (Bool)} {fu : Nat} {v18 : Int} {m0 : Nat} (hz : Sf33_7.ok p = true) (h0 : AtH Sf33_7 st (V2f33_7 a0 at3 v18 m0) (B2f33_7 a0 at3 v18 m0)) (em0 : m0 = List.length [false, true]) (h : ∀ (n : Nat) (v18 : Int), f33_7b (f33_7 a0 N self at3 k1 n) a0 N self at3 k1 v18 = some r → vc c p nid a (St.mk' Sf33_7 (Vf33_7 a0 at3 v18) (Bf33_7 a0 at3 v18)) (Kloop Sf33_7 (Yf33_7 a0 at3) (Xf33_7 a0 at3) (Jf33_7 a0 N self at3 k1 r) Prod.fst (n + 1, v18) K)) (hF : f33_7 a0 N self at3 k1 fu v18 = some r) : vc c p nid (.loop a) st K := by
  subst em0; refine vc_loop Sf33_7 (Yf33_7 a0 at3) (Xf33_7 a0 at3) (Jf33_7 a0 N self at3 k1 r) Prod.fst hz (kheadL (x := (fu, v18)) hF h0) ?_
  rintro ⟨_ | n, v18⟩ hI
  · cases hI
  · exact h n v18 hI
theorem Mf33_7 {r : Bool} {a0 : List Label} {N : Nat} {self : (List Label) → Option (Bool)} {at3 : Int} {k1 : Option (Bool)} {n : Nat} {v18 : Int} {v18_ : Int} {m0 : Nat} (hF : f33_7 a0 N self at3 k1 n v18 = some r) (h0 : AtH Sf33_7 st (V2f33_7 a0 at3 v18 m0) (B2f33_7 a0 at3 v18 m0)) (em0 : m0 = List.length [false, true]) : Kloop Sf33_7 (Yf33_7 a0 at3) (Xf33_7 a0 at3) (Jf33_7 a0 N self at3 k1 r) Prod.fst (n + 1, v18_) K .normal st := by
  subst em0; exact kback (y := (n, v18)) hF (Nat.lt_succ_self n) h0
def f33_4b (r4 : Int → Option (Bool)) (a0 : List Label) (N : Nat) (self : (List Label) → Option (Bool)) (k0 : Option (Bool)) (at3 : Int) : Option (Bool) :=
 bif decide (at3 < (12 : Int)) then (joinK (f33_c5 a0 at3 r4) fun k1 =>
 f33_7 a0 N self at3 k1 N (0 : Int))
 else k0
def f33_4 (a0 : List Label) (N : Nat) (self : (List Label) → Option (Bool)) (k0 : Option (Bool)) : Nat → Int → Option (Bool)
  | 0, _ => none
  | n + 1, at3 => f33_4b (f33_4 a0 N self k0 n) a0 N self k0 at3
def Sf33_4 : Ann := ⟨[0, 3], [], [], []⟩
def Vf33_4 (a0 : List Label) (at3 : Int) : List SV := [.dat (sl_Label a0), .dat (iN at3)]
def Bf33_4 (a0 : List Label) (at3 : Int) : List Blk := []
def Yf33_4 (a0 : List Label) (y : Nat × Int) : List SV := Vf33_4 a0 y.2
def Xf33_4 (a0 : List Label) (y : Nat × Int) : List Blk := Bf33_4 a0 y.2
def Jf33_4 (a0 : List Label) (N : Nat) (self : (List Label) → Option (Bool)) (k0 : Option (Bool)) (r : Bool) (y : Nat × Int) : Prop := f33_4 a0 N self k0 y.1 y.2 = some r
theorem Lf33_4 {r : Bool} {a0 : List Label} {N : Nat} {self : (List Label) → Option (Bool)} {k0 : Option (Bool)} {fu : Nat} {at3 : Int} (hz : Sf33_4.ok p = true) (h0 : AtH Sf33_4 st (Vf33_4 a0 at3) (Bf33_4 a0 at3)) (h : ∀ (n : Nat) (at3 : Int), f33_4b (f33_4 a0 N self k0 n) a0 N self k0 at3 = some r → vc c p nid a (St.mk' Sf33_4 (Vf33_4 a0 at3) (Bf33_4 a0 at3)) (Kloop Sf33_4 (Yf33_4 a0) (Xf33_4 a0) (Jf33_4 a0 N self k0 r) Prod.fst (n + 1, at3) K)) (hF : f33_4 a0 N self k0 fu at3 = some r) : vc c p nid (.loop a) st K := by
  refine vc_loop Sf33_4 (Yf33_4 a0) (Xf33_4 a0) (Jf33_4 a0 N self k0 r) Prod.fst hz (kheadL (x := (fu, at3)) hF h0) ?_
  rintro ⟨_ | n, at3⟩ hI
  · cases hI
  · exact h n at3 hI
theorem Mf33_4 {r : Bool} {a0 : List Label} {N : Nat} {self : (List Label) → Option (Bool)} {k0 : Option (Bool)} {n : Nat} {at3 : Int} {at3_ : Int} (hF : f33_4 a0 N self k0 n at3 = some r) (h0 : AtH Sf33_4 st (Vf33_4 a0 at3) (Bf33_4 a0 at3)) : Kloop Sf33_4 (Yf33_4 a0) (Xf33_4 a0) (Jf33_4 a0 N self k0 r) Prod.fst (n + 1, at3_) K .normal st := by
  exact kback (y := (n, at3)) hF (Nat.lt_succ_self n) h0
def f33b (self : (List Label) → Option (Bool)) (N : Nat) (a0 : List Label) : Option (Bool) :=
 bif decide ((List.length a0 : Int) < (2 : Int)) then (some (true))
 else (joinK f33_c13 fun k0 =>
 f33_4 a0 N self k0 N (1 : Int))
def f33 : Nat → (List Label) → Option (Bool)
  | 0, _ => none
  | N + 1, a0 => f33b (f33 N) N a0
def H33 (N : Nat) (ds : List D) (d : D) : Prop := ∃ (a0 : List Label) (r : Bool), ds = [sl_Label a0] ∧ f33 N a0 = some r ∧ d = bN r
def G33 (ds : List D) (d : D) : Prop := ∃ N : Nat, H33 N ds d
theorem H33.step {N : Nat} {a0 : List Label} {ρ : Type} {A : Bool → Option ρ} {q : ρ} {ds : List D} {K : D → Prop} (hd : ds = [sl_Label a0]) (h : ∀ r, A r = some q → K (bN r)) (hF : (f33 N a0).bind A = some q) : ∃ d, H33 N ds d ∧ K d := by
  obtain ⟨r, hr, hA⟩ := bind_some hF
  exact ⟨_, ⟨a0, r, hd, hr, rfl⟩, h r hA⟩
theorem G33.step {N : Nat} {a0 : List Label} {ρ : Type} {A : Bool → Option ρ} {q : ρ} {ds : List D} {K : D → Prop} (hd : ds = [sl_Label a0]) (h : ∀ r, A r = some q → K (bN r)) (hF : (f33 N a0).bind A = some q) : ∃ d, G33 ds d ∧ K d := by
  obtain ⟨r, hr, hA⟩ := bind_some hF
  exact ⟨_, ⟨N, a0, r, hd, hr, rfl⟩, h r hA⟩
set_option maxRecDepth 20000 in
set_option maxHeartbeats 4000000 in
theorem Q33 (N : Nat) : PureOK Try.prog 33 (H33 N) := by
  induction N with
  | zero =>
    rintro w Z vs ds d h1 h2 h3 ⟨a0, r, h4, h5, h6⟩
    cases h5
  | succ N ih =>
    refine pure_of_vc (c := mkCtx tyTree [(33, true, purePg [[4]] (H33 N)), (36, true, purePg [[4], [0, 0]] G36)]) rfl tyOK (ctx_cons (callable Try.func33 rfl rfl) ih (ctx_cons (callable Try.func36 rfl rfl) P36 (ctx_nil))) [[0]] 1 Try.func33 rfl rfl (by decide) (by kernel_rfl) ?_
    rintro ds d ⟨a0, r, rfl, hF, rfl⟩ hok
    clear hok
    refine ⟨rfl, ?_⟩
    show vc _ _ _ _ ⟨[(0, .dat (sl_Label a0))], []⟩ _
    have hF : f33b (f33 N) N a0 = some r := hF
    unfold f33b at hF
    repeat' (first
      | ((with_reducible refine q0 _ _ ?_); clear Q q0 q1 q2)
      | ((with_reducible refine q1 _ _ _ _ ?_); clear Q q0 q1 q2)
      | ((with_reducible refine q2 _ _ _ ?_); clear Q q0 q1 q2)
      | ((with_reducible refine seq_op ?hx (fun Q q0 q1 q2 => ?_)); (case hx => exact rfl); conv => whnf)
      | ((with_reducible refine seq_off ?hx ?_); (case hx => exact rfl))
      | ((with_reducible refine seq_off0 ?hx ?_); (case hx => exact rfl))
      | ((with_reducible refine seq_id ?_); (first | ((refine seq_opK rfl ?hy (fun Q q0 q1 q2 => ?_)); (case hy => first | assumption | exact notT (by assumption) | exact rfl); conv => whnf) | ((refine seq_offK rfl ?hy ?_); (case hy => first | assumption | exact notF (by assumption) | exact rfl)) | ((refine seq_opK0 rfl ?hy (fun Q q0 q1 q2 => ?_)); (case hy => first | assumption | exact notT (by assumption) | exact rfl); conv => whnf) | ((refine seq_offK0 rfl ?hy ?_); (case hy => first | assumption | exact notF (by assumption) | exact rfl)) | (revert hF; (with_reducible refine seq_opF ?hx ?_ ?_); (case hx => exact rfl); (intro hc hF Q q0 q1 q2; conv => whnf); rotate_left; (intro hc hF); rotate_right) | (revert hF; (with_reducible refine seq_opN ?hx ?_ ?_); (case hx => exact rfl); (intro hc hF); rotate_left; (intro hc hF Q q0 q1 q2; conv => whnf); rotate_right) | (revert hF; (with_reducible refine seq_opF0 ?hx ?_ ?_); (case hx => exact rfl); (intro hc hF Q q0 q1 q2; conv => whnf); rotate_left; (intro hc hF); rotate_right) | (revert hF; (with_reducible refine seq_opN0 ?hx ?_ ?_); (case hx => exact rfl); (intro hc hF); rotate_left; (intro hc hF Q q0 q1 q2; conv => whnf); rotate_right)))
      | ((with_reducible refine cond_id ?_); (first | ((refine condKT rfl ?hy ?_); (case hy => first | assumption | exact notT (by assumption) | exact rfl)) | ((refine condKF rfl ?hy ?_); (case hy => first | assumption | exact notF (by assumption) | exact rfl)) | (revert hF; (with_reducible refine condF ?hx ?_ ?_); (case hx => exact rfl); all_goals (intro hc hF))))
      | ((with_reducible refine seq_nil ?_); (first | ((with_reducible refine hR _ ?_); clear R hR) | ((with_reducible refine hL _ ?_); clear L hL)))
      | ((with_reducible refine int_step ?_); conv => whnf)
      | ((with_reducible refine len_step ?_); conv => whnf)
      | ((with_reducible refine idx2 (by assumption) ?_); conv => whnf)
      | ((with_reducible refine idx3 (by assumption) ?_); conv => whnf)
      | with_reducible refine vc_block ?_
      | with_reducible refine vc_skip ?_
      | with_reducible refine vc_ret ?_
      | with_reducible refine vc_exit ?_
      | ((with_reducible refine vc_seqN [13, 5] ?hx ?_); (case hx => exact rfl))
      | (with_reducible refine vc_region (fun R hR => ?_))
      | fail
      | (revert hF; (refine Cf33_c13 rfl rfl ?_ ?_); (intro hF); rotate_left; (intro _ hF; unfold f33_c13 at hF); rotate_right)
      | exact Zf33_c13 hF ⟨_, rfl, rfl, rfl, rfl⟩
      | (revert hF; (refine Cf33_c5 rfl rfl ?_ ?_); (intro hF); rotate_left; (intro _ hF; unfold f33_c5 at hF); rotate_right)
      | exact Zf33_c5 hF ⟨_, rfl, rfl, rfl, rfl⟩
      | (revert hF; (refine Lf33_7 rfl ⟨_, rfl, rfl, rfl, rfl⟩ (by first | exact rfl | assumption | omega) ?_); intro n v18 hF; unfold f33_7b at hF)
      | exact Mf33_7 hF ⟨_, rfl, rfl, rfl, rfl⟩ (by first | exact rfl | assumption | omega)
      | (revert hF; (refine Lf33_4 rfl ⟨_, rfl, rfl, rfl, rfl⟩ ?_); intro n at3 hF; unfold f33_4b at hF)
      | exact Mf33_4 hF ⟨_, rfl, rfl, rfl, rfl⟩
      | (revert hF; (with_reducible refine G36.step ?hx ?_); (case hx => exact rfl); intro v hF; conv => whnf)
      | (revert hF; (with_reducible refine H33.step ?hx ?_); (case hx => exact rfl); intro v hF; conv => whnf)
      | with_reducible refine k_seq_ret ?_
      | with_reducible refine k_seq_exit ?_
      | with_reducible refine k_blk ?_
      | with_reducible refine k_blk_ret ?_
      | with_reducible refine k_blk_here ?_
      | ((with_reducible refine k_blk_out ?hx ?_); (case hx => exact rfl))
      | with_reducible refine k_loop_ret ?_
      | with_reducible refine k_loop_exit ?_
      | (revert hF; (with_reducible refine idx1 ?hn ?_); (case hn => first | exact rfl | exact (List.length_map _) | assumption | omega | simp); intro x hx hF; conv => whnf)
      | ((refine row_all ?hn ?_); (case hn => first | exact rfl | (simp; done) | (simp; omega)); conv => whnf)
      | ((with_reducible refine le_step ?hn ?_); (case hn => first | exact rfl | assumption | omega); conv => whnf)
      | ((refine ⟨?hx, ?_⟩); (case hx => exact ⟨rfl, Nat.le_of_ble_eq_true rfl, rfl⟩); conv => whnf)
      | ((with_reducible refine ex_step ?_); conv => whnf)
      | ((with_reducible refine both_T ?hx ?_); (case hx => first | exact rfl | assumption | exact notT (by assumption)); conv => whnf)
      | ((with_reducible refine both_F ?hx ?_); (case hx => first | exact rfl | assumption | exact notF (by assumption)); conv => whnf)
      | (revert hF; (with_reducible refine ite_step ?_ ?_) <;> (intro hc hF; conv => whnf))
      | ((with_reducible refine vc_condT ?hx ?_); (case hx => exact rfl))
      | ((with_reducible refine vc_condF ?hx ?_); (case hx => exact rfl))
      | (show retD _ _ _ _ _ _; conv => whnf)
      | ((refine ⟨?hx, trivial⟩); (case hx => (cases hF; exact rfl)))
      | ((refine ⟨?hx, ?_⟩); (case hx => decide); conv => whnf)
      | ((with_reducible refine k_seq ?_))
      | (have hF : (none : Option _) = some _ := hF; cases hF))
theorem P33 : PureOK Try.prog 33 G33 := PureOK.ex Q33
end
end Go.Vc
namespace Go.Vc
open Go.Proofs
set_option linter.unusedVariables false
set_option linter.unnecessarySimpa false
set_option linter.unusedSimpArgs false
section
variable {c : Ctx} {p nid : Nat} {a b : Code} {st : St} {K : Ex → St → Prop}
/- f35: tusche/tuschelaw06.meet -/
def f35_c9 : Option (Bool) :=
 some (false)
def Sf35_c9 : Ann := ⟨[], [], [], []⟩
def Vf35_c9 : List SV := []
def Bf35_c9 : List Blk := []
def Yf35_c9 (y : Unit) : List SV := Vf35_c9
def Xf35_c9 (y : Unit) : List Blk := Bf35_c9
def Jf35_c9 (r : Bool) (y : Unit) : Prop := f35_c9 = some r
theorem Cf35_c9 {r : Bool} {g : _ → Option (Bool)} (hn : Nat.beq (nid * 1000 + firstRegion b) 9 = true) (hz : Sf35_c9.ok p = true) (h : g f35_c9 = some r → vc c p nid a st (KHead Sf35_c9 Yf35_c9 Xf35_c9 (Jf35_c9 r) K)) (h2 : ∀ (_ : Unit), f35_c9 = some r → vc c p nid b (St.mk' Sf35_c9 Vf35_c9 Bf35_c9) K) (hF : joinK f35_c9 g = some r) : vc c p nid (.seq a b) st K :=
  vc_cut Sf35_c9 Yf35_c9 Xf35_c9 (Jf35_c9 r) hz (h hF) fun y hy => h2 () hy
theorem Zf35_c9 {r : Bool} (hF : f35_c9 = some r) (h0 : AtH Sf35_c9 st Vf35_c9 Bf35_c9) : KHead Sf35_c9 Yf35_c9 Xf35_c9 (Jf35_c9 r) K .normal st := by
  exact khead (I := (Jf35_c9 r)) (x := ()) hF h0
def f35_c3 (a0 : Label) (a1 : Label) (x5 : Int) (r2 : Int → Option (Bool)) : Option (Bool) :=
 r2 (W (x5 + (1 : Int)))
def Sf35_c3 : Ann := ⟨[2, 3, 5], [0, 1], [], []⟩
def Vf35_c3 (a0 : Label) (a1 : Label) (x5 : Int) : List SV := [.ptr 0 0, .ptr 1 0, .dat (iN x5)]
def Bf35_c3 (a0 : Label) (a1 : Label) (x5 : Int) : List Blk := [.box [.dat (iN a0.X), .dat (iN a0.Y), .dat (iN a0.W), .dat (iN a0.H)], .box [.dat (iN a1.X), .dat (iN a1.Y), .dat (iN a1.W), .dat (iN a1.H)]]
def Yf35_c3 (a0 : Label) (a1 : Label) (x5 : Int) (y : Unit) : List SV := Vf35_c3 a0 a1 x5
def Xf35_c3 (a0 : Label) (a1 : Label) (x5 : Int) (y : Unit) : List Blk := Bf35_c3 a0 a1 x5
def Jf35_c3 (a0 : Label) (a1 : Label) (x5 : Int) (r2 : Int → Option (Bool)) (r : Bool) (y : Unit) : Prop := f35_c3 a0 a1 x5 r2 = some r
theorem Cf35_c3 {r : Bool} {a0 : Label} {a1 : Label} {x5 : Int} {r2 : Int → Option (Bool)} {g : _ → Option (Bool)} (hn : Nat.beq (nid * 1000 + firstRegion b) 3 = true) (hz : Sf35_c3.ok p = true) (h : g (f35_c3 a0 a1 x5 r2) = some r → vc c p nid a st (KHead Sf35_c3 (Yf35_c3 a0 a1 x5) (Xf35_c3 a0 a1 x5) (Jf35_c3 a0 a1 x5 r2 r) K)) (h2 : ∀ (_ : Unit), f35_c3 a0 a1 x5 r2 = some r → vc c p nid b (St.mk' Sf35_c3 (Vf35_c3 a0 a1 x5) (Bf35_c3 a0 a1 x5)) K) (hF : joinK (f35_c3 a0 a1 x5 r2) g = some r) : vc c p nid (.seq a b) st K :=
  vc_cut Sf35_c3 (Yf35_c3 a0 a1 x5) (Xf35_c3 a0 a1 x5) (Jf35_c3 a0 a1 x5 r2 r) hz (h hF) fun y hy => h2 () hy
theorem Zf35_c3 {r : Bool} {a0 : Label} {a1 : Label} {x5 : Int} {r2 : Int → Option (Bool)} (hF : f35_c3 a0 a1 x5 r2 = some r) (h0 : AtH Sf35_c3 st (Vf35_c3 a0 a1 x5) (Bf35_c3 a0 a1 x5)) : KHead Sf35_c3 (Yf35_c3 a0 a1 x5) (Xf35_c3 a0 a1 x5) (Jf35_c3 a0 a1 x5 r2 r) K .normal st := by
  exact khead (I := (Jf35_c3 a0 a1 x5 r2 r)) (x := ()) hF h0
def f35_5b (r5 : Int → Option (Bool)) (a0 : Label) (a1 : Label) (x5 : Int) (k1 : Option (Bool)) (y6 : Int) : Option (Bool) :=
 bif decide (y6 < (W (a0.Y + a0.H))) then (bif decide (a1.X ≤ x5) then (bif decide (x5 < (W (a1.X + a1.W))) then (bif decide (a1.Y ≤ y6) then (bif decide (y6 < (W (a1.Y + a1.H))) then (some (true))
 else (r5 (W (y6 + (1 : Int)))))
 else (r5 (W (y6 + (1 : Int)))))
 else (r5 (W (y6 + (1 : Int)))))
 else (r5 (W (y6 + (1 : Int)))))
 else k1
def f35_5 (a0 : Label) (a1 : Label) (x5 : Int) (k1 : Option (Bool)) : Nat → Int → Option (Bool)
  | 0, _ => none
  | n + 1, y6 => f35_5b (f35_5 a0 a1 x5 k1 n) a0 a1 x5 k1 y6
def Sf35_5 : Ann := ⟨[2, 3, 5, 6], [0, 1], [], []⟩
def Vf35_5 (a0 : Label) (a1 : Label) (x5 : Int) (y6 : Int) : List SV := [.ptr 0 0, .ptr 1 0, .dat (iN x5), .dat (iN y6)]
def Bf35_5 (a0 : Label) (a1 : Label) (x5 : Int) (y6 : Int) : List Blk := [.box [.dat (iN a0.X), .dat (iN a0.Y), .dat (iN a0.W), .dat (iN a0.H)], .box [.dat (iN a1.X), .dat (iN a1.Y), .dat (iN a1.W), .dat (iN a1.H)]]
def Yf35_5 (a0 : Label) (a1 : Label) (x5 : Int) (y : Nat × Int) : List SV := Vf35_5 a0 a1 x5 y.2
def Xf35_5 (a0 : Label) (a1 : Label) (x5 : Int) (y : Nat × Int) : List Blk := Bf35_5 a0 a1 x5 y.2
def Jf35_5 (a0 : Label) (a1 : Label) (x5 : Int) (k1 : Option (Bool)) (r : Bool) (y : Nat × Int) : Prop := f35_5 a0 a1 x5 k1 y.1 y.2 = some r
theorem Lf35_5 {r : Bool} {a0 : Label} {a1 : Label} {x5 : Int} {k1 : Option (Bool)} {fu : Nat} {y6 : Int} (hz : Sf35_5.ok p = true) (h0 : AtH Sf35_5 st (Vf35_5 a0 a1 x5 y6) (Bf35_5 a0 a1 x5 y6)) (h : ∀ (n : Nat) (y6 : Int), f35_5b (f35_5 a0 a1 x5 k1 n) a0 a1 x5 k1 y6 = some r → vc c p nid a (St.mk' Sf35_5 (Vf35_5 a0 a1 x5 y6) (Bf35_5 a0 a1 x5 y6)) (Kloop Sf35_5 (Yf35_5 a0 a1 x5) (Xf35_5 a0 a1 x5) (Jf35_5 a0 a1 x5 k1 r) Prod.fst (n + 1, y6) K)) (hF : f35_5 a0 a1 x5 k1 fu y6 = some r) : vc c p nid (.loop a) st K := by
  refine vc_loop Sf35_5 (Yf35_5 a0 a1 x5) (Xf35_5 a0 a1 x5) (Jf35_5 a0 a1 x5 k1 r) Prod.fst hz (kheadL (x := (fu, y6)) hF h0) ?_
  rintro ⟨_ | n, y6⟩ hI
  · cases hI
  · exact h n y6 hI
theorem Mf35_5 {r : Bool} {a0 : Label} {a1 : Label} {x5 : Int} {k1 : Option (Bool)} {n : Nat} {y6 : Int} {y6_ : Int} (hF : f35_5 a0 a1 x5 k1 n y6 = some r) (h0 : AtH Sf35_5 st (Vf35_5 a0 a1 x5 y6) (Bf35_5 a0 a1 x5 y6)) : Kloop Sf35_5 (Yf35_5 a0 a1 x5) (Xf35_5 a0 a1 x5) (Jf35_5 a0 a1 x5 k1 r) Prod.fst (n + 1, y6_) K .normal st := by
  exact kback (y := (n, y6)) hF (Nat.lt_succ_self n) h0
def f35_2b (r2 : Int → Option (Bool)) (a0 : Label) (a1 : Label) (N : Nat) (k0 : Option (Bool)) (x5 : Int) : Option (Bool) :=
 bif decide (x5 < (W (a0.X + a0.W))) then (joinK (f35_c3 a0 a1 x5 r2) fun k1 =>
 f35_5 a0 a1 x5 k1 N a0.Y)
 else k0
def f35_2 (a0 : Label) (a1 : Label) (N : Nat) (k0 : Option (Bool)) : Nat → Int → Option (Bool)
  | 0, _ => none
  | n + 1, x5 => f35_2b (f35_2 a0 a1 N k0 n) a0 a1 N k0 x5
def Sf35_2 : Ann := ⟨[2, 3, 5], [0, 1], [], []⟩
def Vf35_2 (a0 : Label) (a1 : Label) (x5 : Int) : List SV := [.ptr 0 0, .ptr 1 0, .dat (iN x5)]
def Bf35_2 (a0 : Label) (a1 : Label) (x5 : Int) : List Blk := [.box [.dat (iN a0.X), .dat (iN a0.Y), .dat (iN a0.W), .dat (iN a0.H)], .box [.dat (iN a1.X), .dat (iN a1.Y), .dat (iN a1.W), .dat (iN a1.H)]]
def Yf35_2 (a0 : Label) (a1 : Label) (y : Nat × Int) : List SV := Vf35_2 a0 a1 y.2
def Xf35_2 (a0 : Label) (a1 : Label) (y : Nat × Int) : List Blk := Bf35_2 a0 a1 y.2
def Jf35_2 (a0 : Label) (a1 : Label) (N : Nat) (k0 : Option (Bool)) (r : Bool) (y : Nat × Int) : Prop := f35_2 a0 a1 N k0 y.1 y.2 = some r
theorem Lf35_2 {r : Bool} {a0 : Label} {a1 : Label} {N : Nat} {k0 : Option (Bool)} {fu : Nat} {x5 : Int} (hz : Sf35_2.ok p = true) (h0 : AtH Sf35_2 st (Vf35_2 a0 a1 x5) (Bf35_2 a0 a1 x5)) (h : ∀ (n : Nat) (x5 : Int), f35_2b (f35_2 a0 a1 N k0 n) a0 a1 N k0 x5 = some r → vc c p nid a (St.mk' Sf35_2 (Vf35_2 a0 a1 x5) (Bf35_2 a0 a1 x5)) (Kloop Sf35_2 (Yf35_2 a0 a1) (Xf35_2 a0 a1) (Jf35_2 a0 a1 N k0 r) Prod.fst (n + 1, x5) K)) (hF : f35_2 a0 a1 N k0 fu x5 = some r) : vc c p nid (.loop a) st K := by
  refine vc_loop Sf35_2 (Yf35_2 a0 a1) (Xf35_2 a0 a1) (Jf35_2 a0 a1 N k0 r) Prod.fst hz (kheadL (x := (fu, x5)) hF h0) ?_
  rintro ⟨_ | n, x5⟩ hI
  · cases hI
  · exact h n x5 hI
theorem Mf35_2 {r : Bool} {a0 : Label} {a1 : Label} {N : Nat} {k0 : Option (Bool)} {n : Nat} {x5 : Int} {x5_ : Int} (hF : f35_2 a0 a1 N k0 n x5 = some r) (h0 : AtH Sf35_2 st (Vf35_2 a0 a1 x5) (Bf35_2 a0 a1 x5)) : Kloop Sf35_2 (Yf35_2 a0 a1) (Xf35_2 a0 a1) (Jf35_2 a0 a1 N k0 r) Prod.fst (n + 1, x5_) K .normal st := by
  exact kback (y := (n, x5)) hF (Nat.lt_succ_self n) h0
def f35 (N : Nat) (a0 : Label) (a1 : Label) : Option (Bool) :=
 joinK f35_c9 fun k0 =>
 f35_2 a0 a1 N k0 N a0.X
def G35 (ds : List D) (d : D) : Prop := ∃ (N : Nat) (a0 : Label) (a1 : Label) (r : Bool), ds = [Label.d a0, Label.d a1] ∧ f35 N a0 a1 = some r ∧ d = bN r
theorem G35.step {N : Nat} {a0 : Label} {a1 : Label} {ρ : Type} {A : Bool → Option ρ} {q : ρ} {ds : List D} {K : D → Prop} (hd : ds = [Label.d a0, Label.d a1]) (h : ∀ r, A r = some q → K (bN r)) (hF : (f35 N a0 a1).bind A = some q) : ∃ d, G35 ds d ∧ K d := by
  obtain ⟨r, hr, hA⟩ := bind_some hF
  exact ⟨_, ⟨N, a0, a1, r, hd, hr, rfl⟩, h r hA⟩
set_option maxRecDepth 20000 in
set_option maxHeartbeats 4000000 in
theorem P35 : PureOK Try.prog 35 G35 := by
  refine pure_of_vc (c := mkCtx tyTree []) rfl tyOK (ctx_nil) [[0]] 2 Try.func35 rfl rfl (by decide) (by kernel_rfl) ?_
  rintro ds d ⟨N, a0, a1, r, rfl, hF, rfl⟩ hok
  clear hok
  refine ⟨rfl, ?_⟩
  show vc _ _ _ _ ⟨[(0, .dat (Label.d a0)), (1, .dat (Label.d a1))], []⟩ _
  unfold f35 at hF
  repeat' (first
    | ((with_reducible refine q0 _ _ ?_); clear Q q0 q1 q2)
    | ((with_reducible refine q1 _ _ _ _ ?_); clear Q q0 q1 q2)
    | ((with_reducible refine q2 _ _ _ ?_); clear Q q0 q1 q2)
    | ((with_reducible refine seq_op ?hx (fun Q q0 q1 q2 => ?_)); (case hx => exact rfl); conv => whnf)
    | ((with_reducible refine seq_off ?hx ?_); (case hx => exact rfl))
    | ((with_reducible refine seq_off0 ?hx ?_); (case hx => exact rfl))
    | ((with_reducible refine seq_id ?_); (first | ((refine seq_opK rfl ?hy (fun Q q0 q1 q2 => ?_)); (case hy => first | assumption | exact notT (by assumption) | exact rfl); conv => whnf) | ((refine seq_offK rfl ?hy ?_); (case hy => first | assumption | exact notF (by assumption) | exact rfl)) | ((refine seq_opK0 rfl ?hy (fun Q q0 q1 q2 => ?_)); (case hy => first | assumption | exact notT (by assumption) | exact rfl); conv => whnf) | ((refine seq_offK0 rfl ?hy ?_); (case hy => first | assumption | exact notF (by assumption) | exact rfl)) | (revert hF; (with_reducible refine seq_opF ?hx ?_ ?_); (case hx => exact rfl); (intro hc hF Q q0 q1 q2; conv => whnf); rotate_left; (intro hc hF); rotate_right) | (revert hF; (with_reducible refine seq_opN ?hx ?_ ?_); (case hx => exact rfl); (intro hc hF); rotate_left; (intro hc hF Q q0 q1 q2; conv => whnf); rotate_right) | (revert hF; (with_reducible refine seq_opF0 ?hx ?_ ?_); (case hx => exact rfl); (intro hc hF Q q0 q1 q2; conv => whnf); rotate_left; (intro hc hF); rotate_right) | (revert hF; (with_reducible refine seq_opN0 ?hx ?_ ?_); (case hx => exact rfl); (intro hc hF); rotate_left; (intro hc hF Q q0 q1 q2; conv => whnf); rotate_right)))
    | ((with_reducible refine cond_id ?_); (first | ((refine condKT rfl ?hy ?_); (case hy => first | assumption | exact notT (by assumption) | exact rfl)) | ((refine condKF rfl ?hy ?_); (case hy => first | assumption | exact notF (by assumption) | exact rfl)) | (revert hF; (with_reducible refine condF ?hx ?_ ?_); (case hx => exact rfl); all_goals (intro hc hF))))
    | ((with_reducible refine seq_nil ?_); (first | ((with_reducible refine hR _ ?_); clear R hR) | ((with_reducible refine hL _ ?_); clear L hL)))
    | ((with_reducible refine int_step ?_); conv => whnf)
    | with_reducible refine vc_block ?_
    | with_reducible refine vc_skip ?_
    | with_reducible refine vc_ret ?_
    | with_reducible refine vc_exit ?_
    | ((with_reducible refine vc_seqN [9, 3] ?hx ?_); (case hx => exact rfl))
    | (with_reducible refine vc_region (fun R hR => ?_))
    | fail
    | (revert hF; (refine Cf35_c9 rfl rfl ?_ ?_); (intro hF); rotate_left; (intro _ hF; unfold f35_c9 at hF); rotate_right)
    | exact Zf35_c9 hF ⟨_, rfl, rfl, rfl, rfl⟩
    | (revert hF; (refine Cf35_c3 rfl rfl ?_ ?_); (intro hF); rotate_left; (intro _ hF; unfold f35_c3 at hF); rotate_right)
    | exact Zf35_c3 hF ⟨_, rfl, rfl, rfl, rfl⟩
    | (revert hF; (refine Lf35_5 rfl ⟨_, rfl, rfl, rfl, rfl⟩ ?_); intro n y6 hF; unfold f35_5b at hF)
    | exact Mf35_5 hF ⟨_, rfl, rfl, rfl, rfl⟩
    | (revert hF; (refine Lf35_2 rfl ⟨_, rfl, rfl, rfl, rfl⟩ ?_); intro n x5 hF; unfold f35_2b at hF)
    | exact Mf35_2 hF ⟨_, rfl, rfl, rfl, rfl⟩
    | with_reducible refine k_seq_ret ?_
    | with_reducible refine k_seq_exit ?_
    | with_reducible refine k_blk ?_
    | with_reducible refine k_blk_ret ?_
    | with_reducible refine k_blk_here ?_
    | ((with_reducible refine k_blk_out ?hx ?_); (case hx => exact rfl))
    | with_reducible refine k_loop_ret ?_
    | with_reducible refine k_loop_exit ?_
    | ((refine row_all ?hn ?_); (case hn => first | exact rfl | (simp; done) | (simp; omega)); conv => whnf)
    | ((with_reducible refine le_step ?hn ?_); (case hn => first | exact rfl | assumption | omega); conv => whnf)
    | ((refine ⟨?hx, ?_⟩); (case hx => exact ⟨rfl, Nat.le_of_ble_eq_true rfl, rfl⟩); conv => whnf)
    | ((with_reducible refine ex_step ?_); conv => whnf)
    | ((with_reducible refine both_T ?hx ?_); (case hx => first | exact rfl | assumption | exact notT (by assumption)); conv => whnf)
    | ((with_reducible refine both_F ?hx ?_); (case hx => first | exact rfl | assumption | exact notF (by assumption)); conv => whnf)
    | (revert hF; (with_reducible refine ite_step ?_ ?_) <;> (intro hc hF; conv => whnf))
    | ((with_reducible refine vc_condT ?hx ?_); (case hx => exact rfl))
    | ((with_reducible refine vc_condF ?hx ?_); (case hx => exact rfl))
    | (show retD _ _ _ _ _ _; conv => whnf)
    | ((refine ⟨?hx, trivial⟩); (case hx => (cases hF; exact rfl)))
    | ((refine ⟨?hx, ?_⟩); (case hx => decide); conv => whnf)
    | ((with_reducible refine k_seq ?_))
    | (have hF : (none : Option _) = some _ := hF; cases hF))
end
end Go.Vc
namespace Go.Vc
open Go.Proofs
set_option linter.unusedVariables false
set_option linter.unnecessarySimpa false
set_option linter.unusedSimpArgs false
section
variable {c : Ctx} {p nid : Nat} {a b : Code} {st : St} {K : Ex → St → Prop}
/- f37: (tusche/tuschelaw06.Shop).made -/
def f37_c6 (N : Nat) (out3 : List Kind) : Option ((List Kind)) :=
 bif decide ((List.length out3 : Int) = (0 : Int)) then ((f40 N [(2 : Int), (1 : Int), (3 : Int)]).bind fun x1 =>
 some (x1))
 else (some (out3))
def Sf37_c6 : Ann := ⟨[3], [90003], [(.slot 3, 90003, 88, 3)], []⟩
def Vf37_c6 (out3 : List Kind) : List SV := [.rs 90003 (List.length out3)]
def Bf37_c6 (out3 : List Kind) : List Blk := [.row 88 3 (List.map Kind.d out3)]
def Yf37_c6 (y : (List Kind)) : List SV := Vf37_c6 y
def Xf37_c6 (y : (List Kind)) : List Blk := Bf37_c6 y
def Jf37_c6 (N : Nat) (r : (List Kind)) (y : (List Kind)) : Prop := f37_c6 N y = some r
def V2f37_c6 (out3 : List Kind) (m0 : Nat) : List SV := [.rs 90003 m0]
def B2f37_c6 (out3 : List Kind) (m0 : Nat) : List Blk := [.row 88 3 (List.map Kind.d out3)]
theorem Cf37_c6 {r : (List Kind)} {N : Nat} {g : _ → Option ((List Kind))} (hn : Nat.beq (nid * 1000 + firstRegion b) 6 = true) (hz : Sf37_c6.ok p = true) (h : g (f37_c6 N) = some r → vc c p nid a st (KHead Sf37_c6 Yf37_c6 Xf37_c6 (Jf37_c6 N r) K)) (h2 : ∀ (out3 : List Kind), f37_c6 N out3 = some r → vc c p nid b (St.mk' Sf37_c6 (Vf37_c6 out3) (Bf37_c6 out3)) K) (hF : joinK (f37_c6 N) g = some r) : vc c p nid (.seq a b) st K :=
  vc_cut Sf37_c6 Yf37_c6 Xf37_c6 (Jf37_c6 N r) hz (h hF) fun y hy => h2 y hy
theorem Zf37_c6 {r : (List Kind)} {N : Nat} {out3 : List Kind} {m0 : Nat} (hF : f37_c6 N out3 = some r) (h0 : AtH Sf37_c6 st (V2f37_c6 out3 m0) (B2f37_c6 out3 m0)) (em0 : m0 = List.length out3) : KHead Sf37_c6 Yf37_c6 Xf37_c6 (Jf37_c6 N r) K .normal st := by
  subst em0; exact khead (I := (Jf37_c6 N r)) (x := (out3)) hF h0
def f37_3b (r3 : (List Kind) → Int → Option ((List Kind))) (a0 : List A3u8N) (k0 : (List Kind) → Option ((List Kind))) (out3 : List Kind) (i4 : Int) : Option ((List Kind)) :=
 bif decide (i4 < (List.length a0 : Int)) then (bif decide (i4 < (4 : Int)) then ((ix a0 i4).bind fun x2 =>
 (ix a0 i4).bind fun x3 =>
 (ix a0 i4).bind fun x4 =>
 (app 24 out3 [(Kind.mk (W ((1 : Int) + (Int.tmod x2.e0 (4 : Int)))) (W ((1 : Int) + (Int.tmod x3.e1 (4 : Int)))) (Int.tmod x4.e2 (31 : Int)))]).bind fun x5 =>
 r3 x5 (W (i4 + (1 : Int))))
 else (k0 out3))
 else (k0 out3)
def f37_3 (a0 : List A3u8N) (k0 : (List Kind) → Option ((List Kind))) : Nat → (List Kind) → Int → Option ((List Kind))
  | 0, _, _ => none
  | n + 1, out3, i4 => f37_3b (f37_3 a0 k0 n) a0 k0 out3 i4
def Sf37_3 : Ann := ⟨[0, 3, 4], [90003], [(.slot 3, 90003, 88, 3)], []⟩
def Vf37_3 (a0 : List A3u8N) (out3 : List Kind) (i4 : Int) : List SV := [.dat (sl_A3u8N a0), .rs 90003 (List.length out3), .dat (iN i4)]
def Bf37_3 (a0 : List A3u8N) (out3 : List Kind) (i4 : Int) : List Blk := [.row 88 3 (List.map Kind.d out3)]
def Yf37_3 (a0 : List A3u8N) (y : Nat × (List Kind) × Int) : List SV := Vf37_3 a0 y.2.1 y.2.2
def Xf37_3 (a0 : List A3u8N) (y : Nat × (List Kind) × Int) : List Blk := Bf37_3 a0 y.2.1 y.2.2
def Jf37_3 (a0 : List A3u8N) (k0 : (List Kind) → Option ((List Kind))) (r : (List Kind)) (y : Nat × (List Kind) × Int) : Prop := f37_3 a0 k0 y.1 y.2.1 y.2.2 = some r
def V2f37_3 (a0 : List A3u8N) (out3 : List Kind) (i4 : Int) (m0 : Nat) : List SV := [.dat (sl_A3u8N a0), .rs 90003 m0, .dat (iN i4)]
def B2f37_3 (a0 : List A3u8N) (out3 : List Kind) (i4 : Int) (m0 : Nat) : List Blk := [.row 88 3 (List.map Kind.d out3)]
theorem Lf37_3 {r : (List Kind)} {a0 : List A3u8N} {k0 : (List Kind) → Option ((List Kind))} {fu : Nat} {out3 : List Kind} {i4 : Int} {m0 : Nat} (hz : Sf37_3.ok p = true) (h0 : AtH Sf37_3 st (V2f37_3 a0 out3 i4 m0) (B2f37_3 a0 out3 i4 m0)) (em0 : m0 = List.length out3) (h : ∀ (n : Nat) (out3 : List Kind) (i4 : Int), f37_3b (f37_3 a0 k0 n) a0 k0 out3 i4 = some r → vc c p nid a (St.mk' Sf37_3 (Vf37_3 a0 out3 i4) (Bf37_3 a0 out3 i4)) (Kloop Sf37_3 (Yf37_3 a0) (Xf37_3 a0) (Jf37_3 a0 k0 r) Prod.fst (n + 1, out3, i4) K)) (hF : f37_3 a0 k0 fu out3 i4 = some r) : vc c p nid (.loop a) st K := by
  subst em0; refine vc_loop Sf37_3 (Yf37_3 a0) (Xf37_3 a0) (Jf37_3 a0 k0 r) Prod.fst hz (kheadL (x := (fu, out3, i4)) hF h0) ?_
  rintro ⟨_ | n, out3, i4⟩ hI
  · cases hI
  · exact h n out3 i4 hI
theorem Mf37_3 {r : (List Kind)} {a0 : List A3u8N} {k0 : (List Kind) → Option ((List Kind))} {n : Nat} {out3 : List Kind} {i4 : Int} {out3_ : List Kind} {i4_ : Int} {m0 : Nat} (hF : f37_3 a0 k0 n out3 i4 = some r) (h0 : AtH Sf37_3 st (V2f37_3 a0 out3 i4 m0) (B2f37_3 a0 out3 i4 m0)) (em0 : m0 = List.length out3) : Kloop Sf37_3 (Yf37_3 a0) (Xf37_3 a0) (Jf37_3 a0 k0 r) Prod.fst (n + 1, out3_, i4_) K .normal st := by
  subst em0; exact kback (y := (n, out3, i4)) hF (Nat.lt_succ_self n) h0
def f37 (N : Nat) (a0 : List A3u8N) : Option ((List Kind)) :=
 joinK (f37_c6 N) fun k0 =>
 f37_3 a0 k0 N [] (0 : Int)
def G37 (ds : List D) (d : D) : Prop := ∃ (N : Nat) (a0 : List A3u8N) (r : (List Kind)), ds = [sl_A3u8N a0] ∧ f37 N a0 = some r ∧ d = sl_Kind r
theorem G37.step {N : Nat} {a0 : List A3u8N} {ρ : Type} {A : (List Kind) → Option ρ} {q : ρ} {ds : List D} {K : D → Prop} (hd : ds = [sl_A3u8N a0]) (h : ∀ r, A r = some q → K (sl_Kind r)) (hF : (f37 N a0).bind A = some q) : ∃ d, G37 ds d ∧ K d := by
  obtain ⟨r, hr, hA⟩ := bind_some hF
  exact ⟨_, ⟨N, a0, r, hd, hr, rfl⟩, h r hA⟩
set_option maxRecDepth 20000 in
set_option maxHeartbeats 4000000 in
theorem P37 : PureOK Try.prog 37 G37 := by
  refine pure_of_vc (c := mkCtx tyTree [(40, true, purePg [[1]] G40)]) rfl tyOK (ctx_cons (callable Try.func40 rfl rfl) P40 (ctx_nil)) [[3]] 1 Try.func37 rfl rfl (by decide) (by kernel_rfl) ?_
  rintro ds d ⟨N, a0, r, rfl, hF, rfl⟩ hok
  clear hok
  refine ⟨rfl, ?_⟩
  show vc _ _ _ _ ⟨[(0, .dat (sl_A3u8N a0))], []⟩ _
  unfold f37 at hF
  repeat' (first
    | ((with_reducible refine q0 _ _ ?_); clear Q q0 q1 q2)
    | ((with_reducible refine q1 _ _ _ _ ?_); clear Q q0 q1 q2)
    | ((with_reducible refine q2 _ _ _ ?_); clear Q q0 q1 q2)
    | ((with_reducible refine seq_op ?hx (fun Q q0 q1 q2 => ?_)); (case hx => exact rfl); conv => whnf)
    | ((with_reducible refine draw_op ?hx (fun Q q0 q1 q2 => ?_)); (case hx => exact rfl); conv => whnf)
    | ((with_reducible refine seq_off ?hx ?_); (case hx => exact rfl))
    | ((with_reducible refine seq_off0 ?hx ?_); (case hx => exact rfl))
    | ((with_reducible refine draw_off ?hx ?_); (case hx => exact rfl))
    | ((with_reducible refine draw_off0 ?hx ?_); (case hx => exact rfl))
    | ((with_reducible refine seq_id ?_); (first | ((refine seq_opK rfl ?hy (fun Q q0 q1 q2 => ?_)); (case hy => first | assumption | exact notT (by assumption) | exact rfl); conv => whnf) | ((refine seq_offK rfl ?hy ?_); (case hy => first | assumption | exact notF (by assumption) | exact rfl)) | ((refine seq_opK0 rfl ?hy (fun Q q0 q1 q2 => ?_)); (case hy => first | assumption | exact notT (by assumption) | exact rfl); conv => whnf) | ((refine seq_offK0 rfl ?hy ?_); (case hy => first | assumption | exact notF (by assumption) | exact rfl)) | (revert hF; (with_reducible refine seq_opF ?hx ?_ ?_); (case hx => exact rfl); (intro hc hF Q q0 q1 q2; conv => whnf); rotate_left; (intro hc hF); rotate_right) | (revert hF; (with_reducible refine seq_opN ?hx ?_ ?_); (case hx => exact rfl); (intro hc hF); rotate_left; (intro hc hF Q q0 q1 q2; conv => whnf); rotate_right) | (revert hF; (with_reducible refine seq_opF0 ?hx ?_ ?_); (case hx => exact rfl); (intro hc hF Q q0 q1 q2; conv => whnf); rotate_left; (intro hc hF); rotate_right) | (revert hF; (with_reducible refine seq_opN0 ?hx ?_ ?_); (case hx => exact rfl); (intro hc hF); rotate_left; (intro hc hF Q q0 q1 q2; conv => whnf); rotate_right)))
    | ((with_reducible refine cond_id ?_); (first | ((refine condKT rfl ?hy ?_); (case hy => first | assumption | exact notT (by assumption) | exact rfl)) | ((refine condKF rfl ?hy ?_); (case hy => first | assumption | exact notF (by assumption) | exact rfl)) | (revert hF; (with_reducible refine condF ?hx ?_ ?_); (case hx => exact rfl); all_goals (intro hc hF))))
    | ((with_reducible refine seq_nil ?_); (first | ((with_reducible refine hR _ ?_); clear R hR) | ((with_reducible refine hL _ ?_); clear L hL)))
    | ((with_reducible refine draw_nil ?_); (with_reducible refine hR _ _ ?hx ?_); (case hx => kernel_rfl); (first | clear R hR | clear hR))
    | ((with_reducible refine int_step ?_); conv => whnf)
    | ((with_reducible refine len_step ?_); conv => whnf)
    | ((with_reducible refine idx2 (by assumption) ?_); conv => whnf)
    | ((with_reducible refine idx3 (by assumption) ?_); conv => whnf)
    | with_reducible refine vc_block ?_
    | with_reducible refine vc_skip ?_
    | with_reducible refine vc_ret ?_
    | with_reducible refine vc_exit ?_
    | ((with_reducible refine vc_seqN [6] ?hx ?_); (case hx => exact rfl))
    | (with_reducible refine vc_region (fun R hR => ?_))
    | ((with_reducible refine vc_draw ?hx (fun R hR => ?_)); (case hx => exact rfl))
    | fail
    | (revert hF; (refine Cf37_c6 rfl rfl ?_ ?_); (intro hF); rotate_left; (intro out3 hF; unfold f37_c6 at hF); rotate_right)
    | exact Zf37_c6 hF ⟨_, rfl, rfl, rfl, rfl⟩ (by first | exact rfl | assumption | omega)
    | (revert hF; (refine Lf37_3 rfl ⟨_, rfl, rfl, rfl, rfl⟩ (by first | exact rfl | assumption | omega) ?_); intro n out3 i4 hF; unfold f37_3b at hF)
    | exact Mf37_3 hF ⟨_, rfl, rfl, rfl, rfl⟩ (by first | exact rfl | assumption | omega)
    | (revert hF; (with_reducible refine G40.step ?hx ?_); (case hx => exact rfl); intro v hF; conv => whnf)
    | with_reducible refine k_seq_ret ?_
    | with_reducible refine k_seq_exit ?_
    | with_reducible refine k_blk ?_
    | with_reducible refine k_blk_ret ?_
    | with_reducible refine k_blk_here ?_
    | ((with_reducible refine k_blk_out ?hx ?_); (case hx => exact rfl))
    | with_reducible refine k_loop_ret ?_
    | with_reducible refine k_loop_exit ?_
    | (revert hF; (with_reducible refine idx1 ?hn ?_); (case hn => first | exact rfl | exact (List.length_map _) | assumption | omega | simp); intro x hx hF; conv => whnf)
    | ((with_reducible have hG := app_fact hF); clear hF; (first | ((refine app_row hG ?hn ?hs (fun q hF => ?_)); (case hn => first | exact rfl | assumption | omega); (case hs => exact rfl)) | ((refine app_nil (d := Kind.d) hG ?hs (fun q hF => ?_)); (case hs => exact rfl)) | ((refine app_gen (d := Kind.d) hG ?ho ?hn ?hs (fun q hF => ?_)); (case ho => exact rfl); (case hn => exact rfl); (case hs => exact rfl))); clear hG; conv => whnf)
    | ((refine row_all ?hn ?_); (case hn => first | exact rfl | (simp; done) | (simp; omega)); conv => whnf)
    | ((with_reducible refine le_step ?hn ?_); (case hn => first | exact rfl | assumption | omega); conv => whnf)
    | ((refine ⟨?hx, ?_⟩); (case hx => exact ⟨rfl, Nat.le_of_ble_eq_true rfl, rfl⟩); conv => whnf)
    | ((with_reducible refine ex_step ?_); conv => whnf)
    | ((with_reducible refine both_T ?hx ?_); (case hx => first | exact rfl | assumption | exact notT (by assumption)); conv => whnf)
    | ((with_reducible refine both_F ?hx ?_); (case hx => first | exact rfl | assumption | exact notF (by assumption)); conv => whnf)
    | (revert hF; (with_reducible refine ite_step ?_ ?_) <;> (intro hc hF; conv => whnf))
    | ((with_reducible refine vc_condT ?hx ?_); (case hx => exact rfl))
    | ((with_reducible refine vc_condF ?hx ?_); (case hx => exact rfl))
    | (show retD _ _ _ _ _ _; conv => whnf)
    | ((refine ⟨?hx, trivial⟩); (case hx => (cases hF; exact rfl)))
    | ((refine ⟨?hx, ?_⟩); (case hx => decide); conv => whnf)
    | ((with_reducible refine k_seq ?_))
    | (have hF : (none : Option _) = some _ := hF; cases hF))
end
end Go.Vc
namespace Go.Vc
open Go.Proofs
set_option linter.unusedVariables false
set_option linter.unnecessarySimpa false
set_option linter.unusedSimpArgs false
section
variable {c : Ctx} {p nid : Nat} {a b : Code} {st : St} {K : Ex → St → Prop}
/- f38: tusche/tuschelaw06.most -/
def f38_c19 (s0 : Int) (s1 : Int) (v11'' : Int) (b0' : List (A2iN × Int)) : Option (Int × (List (A2iN × Int))) :=
 (some (setK (A2iN.mk s0 s1) (v11'') (b0'))).bind fun x2 =>
 some (v11'', x2)
def Sf38_c19 : Ann := ⟨[0, 1, 3, 11], [0], [], []⟩
def Vf38_c19 (s0 : Int) (s1 : Int) (v11'' : Int) (b0' : List (A2iN × Int)) : List SV := [.dat (iN s0), .dat (iN s1), .mp 0, .dat (iN (v11''))]
def Bf38_c19 (s0 : Int) (s1 : Int) (v11'' : Int) (b0' : List (A2iN × Int)) : List Blk := [.mp (encM A2iN.d iN (b0'))]
def Yf38_c19 (s0 : Int) (s1 : Int) (y : Int × (List (A2iN × Int))) : List SV := Vf38_c19 s0 s1 y.1 y.2
def Xf38_c19 (s0 : Int) (s1 : Int) (y : Int × (List (A2iN × Int))) : List Blk := Bf38_c19 s0 s1 y.1 y.2
def Jf38_c19 (s0 : Int) (s1 : Int) (r : Int × (List (A2iN × Int))) (y : Int × (List (A2iN × Int))) : Prop := f38_c19 s0 s1 y.1 y.2 = some r
theorem Cf38_c19 {r : Int × (List (A2iN × Int))} {s0 : Int} {s1 : Int} {g : _ → Option (Int × (List (A2iN × Int)))} (hn : Nat.beq (nid * 1000 + firstRegion b) 1000019 = true) (hz : Sf38_c19.ok p = true) (h : g (f38_c19 s0 s1) = some r → vc c p nid a st (KHead Sf38_c19 (Yf38_c19 s0 s1) (Xf38_c19 s0 s1) (Jf38_c19 s0 s1 r) K)) (h2 : ∀ (v11'' : Int) (b0' : List (A2iN × Int)), f38_c19 s0 s1 v11'' b0' = some r → vc c p nid b (St.mk' Sf38_c19 (Vf38_c19 s0 s1 v11'' b0') (Bf38_c19 s0 s1 v11'' b0')) K) (hF : joinK (f38_c19 s0 s1) g = some r) : vc c p nid (.seq a b) st K :=
  vc_cut Sf38_c19 (Yf38_c19 s0 s1) (Xf38_c19 s0 s1) (Jf38_c19 s0 s1 r) hz (h hF) fun y hy => h2 y.1 y.2 hy
theorem Zf38_c19 {r : Int × (List (A2iN × Int))} {s0 : Int} {s1 : Int} {v11'' : Int} {b0' : List (A2iN × Int)} (hF : f38_c19 s0 s1 v11'' b0' = some r) (h0 : AtH Sf38_c19 st (Vf38_c19 s0 s1 v11'' b0') (Bf38_c19 s0 s1 v11'' b0')) : KHead Sf38_c19 (Yf38_c19 s0 s1) (Xf38_c19 s0 s1) (Jf38_c19 s0 s1 r) K .normal st := by
  exact khead (I := (Jf38_c19 s0 s1 r)) (x := (v11'', b0')) hF h0
def f38_16b (r16 : Int → Int → (List (A2iN × Int)) → Option (Int × (List (A2iN × Int)))) (s0 : Int) (s1 : Int) (s2 : List Kind) (self : Int → Int → (List Kind) → (List (A2iN × Int)) → Option (Int × (List (A2iN × Int)))) (k0 : Int → (List (A2iN × Int)) → Option (Int × (List (A2iN × Int)))) (v11'' : Int) (v15 : Int) (b0' : List (A2iN × Int)) : Option (Int × (List (A2iN × Int))) :=
 bif decide (v15 < s1) then ((self s0 v15 s2 (b0')).bind fun x3 =>
 (self s0 (W (s1 - v15)) s2 x3.2).bind fun x4 =>
 r16 (max (v11'') (W (x3.1 + x4.1))) (W (v15 + (1 : Int))) x4.2)
 else (k0 (v11'') (b0'))
def f38_16 (s0 : Int) (s1 : Int) (s2 : List Kind) (self : Int → Int → (List Kind) → (List (A2iN × Int)) → Option (Int × (List (A2iN × Int)))) (k0 : Int → (List (A2iN × Int)) → Option (Int × (List (A2iN × Int)))) : Nat → Int → Int → (List (A2iN × Int)) → Option (Int × (List (A2iN × Int)))
  | 0, _, _, _ => none
  | n + 1, v11'', v15, b0' => f38_16b (f38_16 s0 s1 s2 self k0 n) s0 s1 s2 self k0 v11'' v15 b0'
def Sf38_16 : Ann := ⟨[0, 1, 2, 3, 11, 15], [0], [], []⟩
def Vf38_16 (s0 : Int) (s1 : Int) (s2 : List Kind) (v11'' : Int) (v15 : Int) (b0' : List (A2iN × Int)) : List SV := [.dat (iN s0), .dat (iN s1), .dat (sl_Kind s2), .mp 0, .dat (iN (v11'')), .dat (iN v15)]
def Bf38_16 (s0 : Int) (s1 : Int) (s2 : List Kind) (v11'' : Int) (v15 : Int) (b0' : List (A2iN × Int)) : List Blk := [.mp (encM A2iN.d iN (b0'))]
def Yf38_16 (s0 : Int) (s1 : Int) (s2 : List Kind) (y : Nat × Int × Int × (List (A2iN × Int))) : List SV := Vf38_16 s0 s1 s2 y.2.1 y.2.2.1 y.2.2.2
def Xf38_16 (s0 : Int) (s1 : Int) (s2 : List Kind) (y : Nat × Int × Int × (List (A2iN × Int))) : List Blk := Bf38_16 s0 s1 s2 y.2.1 y.2.2.1 y.2.2.2
def Jf38_16 (s0 : Int) (s1 : Int) (s2 : List Kind) (self : Int → Int → (List Kind) → (List (A2iN × Int)) → Option (Int × (List (A2iN × Int)))) (k0 : Int → (List (A2iN × Int)) → Option (Int × (List (A2iN × Int)))) (r : Int × (List (A2iN × Int))) (y : Nat × Int × Int × (List (A2iN × Int))) : Prop := f38_16 s0 s1 s2 self k0 y.1 y.2.1 y.2.2.1 y.2.2.2 = some r
theorem Lf38_16 {r : Int × (List (A2iN × Int))} {s0 : Int} {s1 : Int} {s2 : List Kind} {self : Int → Int → (List Kind) → (List (A2iN × Int)) → Option (Int × (List (A2iN × Int)))} {k0 : Int → (List (A2iN × Int)) → Option (Int × (List (A2iN × Int)))} {fu : Nat} {v11'' : Int} {v15 : Int} {b0' : List (A2iN × Int)} (hz : Sf38_16.ok p = true) (h0 : AtH Sf38_16 st (Vf38_16 s0 s1 s2 v11'' v15 b0') (Bf38_16 s0 s1 s2 v11'' v15 b0')) (h : ∀ (n : Nat) (v11'' : Int) (v15 : Int) (b0' : List (A2iN × Int)), f38_16b (f38_16 s0 s1 s2 self k0 n) s0 s1 s2 self k0 v11'' v15 b0' = some r → vc c p nid a (St.mk' Sf38_16 (Vf38_16 s0 s1 s2 v11'' v15 b0') (Bf38_16 s0 s1 s2 v11'' v15 b0')) (Kloop Sf38_16 (Yf38_16 s0 s1 s2) (Xf38_16 s0 s1 s2) (Jf38_16 s0 s1 s2 self k0 r) Prod.fst (n + 1, v11'', v15, b0') K)) (hF : f38_16 s0 s1 s2 self k0 fu v11'' v15 b0' = some r) : vc c p nid (.loop a) st K := by
  refine vc_loop Sf38_16 (Yf38_16 s0 s1 s2) (Xf38_16 s0 s1 s2) (Jf38_16 s0 s1 s2 self k0 r) Prod.fst hz (kheadL (x := (fu, v11'', v15, b0')) hF h0) ?_
  rintro ⟨_ | n, v11'', v15, b0'⟩ hI
  · cases hI
  · exact h n v11'' v15 b0' hI
theorem Mf38_16 {r : Int × (List (A2iN × Int))} {s0 : Int} {s1 : Int} {s2 : List Kind} {self : Int → Int → (List Kind) → (List (A2iN × Int)) → Option (Int × (List (A2iN × Int)))} {k0 : Int → (List (A2iN × Int)) → Option (Int × (List (A2iN × Int)))} {n : Nat} {v11'' : Int} {v15 : Int} {b0' : List (A2iN × Int)} {v11''_ : Int} {v15_ : Int} {b0'_ : List (A2iN × Int)} (hF : f38_16 s0 s1 s2 self k0 n v11'' v15 b0' = some r) (h0 : AtH Sf38_16 st (Vf38_16 s0 s1 s2 v11'' v15 b0') (Bf38_16 s0 s1 s2 v11'' v15 b0')) : Kloop Sf38_16 (Yf38_16 s0 s1 s2) (Xf38_16 s0 s1 s2) (Jf38_16 s0 s1 s2 self k0 r) Prod.fst (n + 1, v11''_, v15_, b0'_) K .normal st := by
  exact kback (y := (n, v11'', v15, b0')) hF (Nat.lt_succ_self n) h0
def f38_c15 (s0 : Int) (s1 : Int) (s2 : List Kind) (N : Nat) (self : Int → Int → (List Kind) → (List (A2iN × Int)) → Option (Int × (List (A2iN × Int)))) (v11' : Int) (b0 : List (A2iN × Int)) : Option (Int × (List (A2iN × Int))) :=
 joinK (f38_c19 s0 s1) fun k0 =>
 f38_16 s0 s1 s2 self k0 N (v11') (1 : Int) b0
def Sf38_c15 : Ann := ⟨[0, 1, 2, 3, 11], [0], [], []⟩
def Vf38_c15 (s0 : Int) (s1 : Int) (s2 : List Kind) (v11' : Int) (b0 : List (A2iN × Int)) : List SV := [.dat (iN s0), .dat (iN s1), .dat (sl_Kind s2), .mp 0, .dat (iN (v11'))]
def Bf38_c15 (s0 : Int) (s1 : Int) (s2 : List Kind) (v11' : Int) (b0 : List (A2iN × Int)) : List Blk := [.mp (encM A2iN.d iN b0)]
def Yf38_c15 (s0 : Int) (s1 : Int) (s2 : List Kind) (y : Int × (List (A2iN × Int))) : List SV := Vf38_c15 s0 s1 s2 y.1 y.2
def Xf38_c15 (s0 : Int) (s1 : Int) (s2 : List Kind) (y : Int × (List (A2iN × Int))) : List Blk := Bf38_c15 s0 s1 s2 y.1 y.2
def Jf38_c15 (s0 : Int) (s1 : Int) (s2 : List Kind) (N : Nat) (self : Int → Int → (List Kind) → (List (A2iN × Int)) → Option (Int × (List (A2iN × Int)))) (r : Int × (List (A2iN × Int))) (y : Int × (List (A2iN × Int))) : Prop := f38_c15 s0 s1 s2 N self y.1 y.2 = some r
theorem Cf38_c15 {r : Int × (List (A2iN × Int))} {s0 : Int} {s1 : Int} {s2 : List Kind} {N : Nat} {self : Int → Int → (List Kind) → (List (A2iN × Int)) → Option (Int × (List (A2iN × Int)))} {g : _ → Option (Int × (List (A2iN × Int)))} (hn : Nat.beq (nid * 1000 + firstRegion b) 1000015 = true) (hz : Sf38_c15.ok p = true) (h : g (f38_c15 s0 s1 s2 N self) = some r → vc c p nid a st (KHead Sf38_c15 (Yf38_c15 s0 s1 s2) (Xf38_c15 s0 s1 s2) (Jf38_c15 s0 s1 s2 N self r) K)) (h2 : ∀ (v11' : Int) (b0 : List (A2iN × Int)), f38_c15 s0 s1 s2 N self v11' b0 = some r → vc c p nid b (St.mk' Sf38_c15 (Vf38_c15 s0 s1 s2 v11' b0) (Bf38_c15 s0 s1 s2 v11' b0)) K) (hF : joinK (f38_c15 s0 s1 s2 N self) g = some r) : vc c p nid (.seq a b) st K :=
  vc_cut Sf38_c15 (Yf38_c15 s0 s1 s2) (Xf38_c15 s0 s1 s2) (Jf38_c15 s0 s1 s2 N self r) hz (h hF) fun y hy => h2 y.1 y.2 hy
theorem Zf38_c15 {r : Int × (List (A2iN × Int))} {s0 : Int} {s1 : Int} {s2 : List Kind} {N : Nat} {self : Int → Int → (List Kind) → (List (A2iN × Int)) → Option (Int × (List (A2iN × Int)))} {v11' : Int} {b0 : List (A2iN × Int)} (hF : f38_c15 s0 s1 s2 N self v11' b0 = some r) (h0 : AtH Sf38_c15 st (Vf38_c15 s0 s1 s2 v11' b0) (Bf38_c15 s0 s1 s2 v11' b0)) : KHead Sf38_c15 (Yf38_c15 s0 s1 s2) (Xf38_c15 s0 s1 s2) (Jf38_c15 s0 s1 s2 N self r) K .normal st := by
  exact khead (I := (Jf38_c15 s0 s1 s2 N self r)) (x := (v11', b0)) hF h0
def f38_12b (r12 : Int → Int → (List (A2iN × Int)) → Option (Int × (List (A2iN × Int)))) (s0 : Int) (s1 : Int) (s2 : List Kind) (self : Int → Int → (List Kind) → (List (A2iN × Int)) → Option (Int × (List (A2iN × Int)))) (k1 : Int → (List (A2iN × Int)) → Option (Int × (List (A2iN × Int)))) (v11' : Int) (v14 : Int) (b0 : List (A2iN × Int)) : Option (Int × (List (A2iN × Int))) :=
 bif decide (v14 < s0) then ((self v14 s1 s2 b0).bind fun x5 =>
 (self (W (s0 - v14)) s1 s2 x5.2).bind fun x6 =>
 r12 (max (v11') (W (x5.1 + x6.1))) (W (v14 + (1 : Int))) x6.2)
 else (k1 (v11') b0)
def f38_12 (s0 : Int) (s1 : Int) (s2 : List Kind) (self : Int → Int → (List Kind) → (List (A2iN × Int)) → Option (Int × (List (A2iN × Int)))) (k1 : Int → (List (A2iN × Int)) → Option (Int × (List (A2iN × Int)))) : Nat → Int → Int → (List (A2iN × Int)) → Option (Int × (List (A2iN × Int)))
  | 0, _, _, _ => none
  | n + 1, v11', v14, b0 => f38_12b (f38_12 s0 s1 s2 self k1 n) s0 s1 s2 self k1 v11' v14 b0
def Sf38_12 : Ann := ⟨[0, 1, 2, 3, 11, 14], [0], [], []⟩
def Vf38_12 (s0 : Int) (s1 : Int) (s2 : List Kind) (v11' : Int) (v14 : Int) (b0 : List (A2iN × Int)) : List SV := [.dat (iN s0), .dat (iN s1), .dat (sl_Kind s2), .mp 0, .dat (iN (v11')), .dat (iN v14)]
def Bf38_12 (s0 : Int) (s1 : Int) (s2 : List Kind) (v11' : Int) (v14 : Int) (b0 : List (A2iN × Int)) : List Blk := [.mp (encM A2iN.d iN b0)]
def Yf38_12 (s0 : Int) (s1 : Int) (s2 : List Kind) (y : Nat × Int × Int × (List (A2iN × Int))) : List SV := Vf38_12 s0 s1 s2 y.2.1 y.2.2.1 y.2.2.2
def Xf38_12 (s0 : Int) (s1 : Int) (s2 : List Kind) (y : Nat × Int × Int × (List (A2iN × Int))) : List Blk := Bf38_12 s0 s1 s2 y.2.1 y.2.2.1 y.2.2.2
def Jf38_12 (s0 : Int) (s1 : Int) (s2 : List Kind) (self : Int → Int → (List Kind) → (List (A2iN × Int)) → Option (Int × (List (A2iN × Int)))) (k1 : Int → (List (A2iN × Int)) → Option (Int × (List (A2iN × Int)))) (r : Int × (List (A2iN × Int))) (y : Nat × Int × Int × (List (A2iN × Int))) : Prop := f38_12 s0 s1 s2 self k1 y.1 y.2.1 y.2.2.1 y.2.2.2 = some r
theorem Lf38_12 {r : Int × (List (A2iN × Int))} {s0 : Int} {s1 : Int} {s2 : List Kind} {self : Int → Int → (List Kind) → (List (A2iN × Int)) → Option (Int × (List (A2iN × Int)))} {k1 : Int → (List (A2iN × Int)) → Option (Int × (List (A2iN × Int)))} {fu : Nat} {v11' : Int} {v14 : Int} {b0 : List (A2iN × Int)} (hz : Sf38_12.ok p = true) (h0 : AtH Sf38_12 st (Vf38_12 s0 s1 s2 v11' v14 b0) (Bf38_12 s0 s1 s2 v11' v14 b0)) (h : ∀ (n : Nat) (v11' : Int) (v14 : Int) (b0 : List (A2iN × Int)), f38_12b (f38_12 s0 s1 s2 self k1 n) s0 s1 s2 self k1 v11' v14 b0 = some r → vc c p nid a (St.mk' Sf38_12 (Vf38_12 s0 s1 s2 v11' v14 b0) (Bf38_12 s0 s1 s2 v11' v14 b0)) (Kloop Sf38_12 (Yf38_12 s0 s1 s2) (Xf38_12 s0 s1 s2) (Jf38_12 s0 s1 s2 self k1 r) Prod.fst (n + 1, v11', v14, b0) K)) (hF : f38_12 s0 s1 s2 self k1 fu v11' v14 b0 = some r) : vc c p nid (.loop a) st K := by
  refine vc_loop Sf38_12 (Yf38_12 s0 s1 s2) (Xf38_12 s0 s1 s2) (Jf38_12 s0 s1 s2 self k1 r) Prod.fst hz (kheadL (x := (fu, v11', v14, b0)) hF h0) ?_
  rintro ⟨_ | n, v11', v14, b0⟩ hI
  · cases hI
  · exact h n v11' v14 b0 hI
theorem Mf38_12 {r : Int × (List (A2iN × Int))} {s0 : Int} {s1 : Int} {s2 : List Kind} {self : Int → Int → (List Kind) → (List (A2iN × Int)) → Option (Int × (List (A2iN × Int)))} {k1 : Int → (List (A2iN × Int)) → Option (Int × (List (A2iN × Int)))} {n : Nat} {v11' : Int} {v14 : Int} {b0 : List (A2iN × Int)} {v11'_ : Int} {v14_ : Int} {b0_ : List (A2iN × Int)} (hF : f38_12 s0 s1 s2 self k1 n v11' v14 b0 = some r) (h0 : AtH Sf38_12 st (Vf38_12 s0 s1 s2 v11' v14 b0) (Bf38_12 s0 s1 s2 v11' v14 b0)) : Kloop Sf38_12 (Yf38_12 s0 s1 s2) (Xf38_12 s0 s1 s2) (Jf38_12 s0 s1 s2 self k1 r) Prod.fst (n + 1, v11'_, v14_, b0_) K .normal st := by
  exact kback (y := (n, v11', v14, b0)) hF (Nat.lt_succ_self n) h0
def f38_c11 (s0 : Int) (s1 : Int) (s2 : List Kind) (s3 : List (A2iN × Int)) (N : Nat) (self : Int → Int → (List Kind) → (List (A2iN × Int)) → Option (Int × (List (A2iN × Int)))) (v11 : Int) : Option (Int × (List (A2iN × Int))) :=
 joinK (f38_c15 s0 s1 s2 N self) fun k1 =>
 f38_12 s0 s1 s2 self k1 N v11 (1 : Int) s3
def Sf38_c11 : Ann := ⟨[0, 1, 2, 3, 11], [0], [], []⟩
def Vf38_c11 (s0 : Int) (s1 : Int) (s2 : List Kind) (s3 : List (A2iN × Int)) (v11 : Int) : List SV := [.dat (iN s0), .dat (iN s1), .dat (sl_Kind s2), .mp 0, .dat (iN v11)]
def Bf38_c11 (s0 : Int) (s1 : Int) (s2 : List Kind) (s3 : List (A2iN × Int)) (v11 : Int) : List Blk := [.mp (encM A2iN.d iN s3)]
def Yf38_c11 (s0 : Int) (s1 : Int) (s2 : List Kind) (s3 : List (A2iN × Int)) (y : Int) : List SV := Vf38_c11 s0 s1 s2 s3 y
def Xf38_c11 (s0 : Int) (s1 : Int) (s2 : List Kind) (s3 : List (A2iN × Int)) (y : Int) : List Blk := Bf38_c11 s0 s1 s2 s3 y
def Jf38_c11 (s0 : Int) (s1 : Int) (s2 : List Kind) (s3 : List (A2iN × Int)) (N : Nat) (self : Int → Int → (List Kind) → (List (A2iN × Int)) → Option (Int × (List (A2iN × Int)))) (r : Int × (List (A2iN × Int))) (y : Int) : Prop := f38_c11 s0 s1 s2 s3 N self y = some r
theorem Cf38_c11 {r : Int × (List (A2iN × Int))} {s0 : Int} {s1 : Int} {s2 : List Kind} {s3 : List (A2iN × Int)} {N : Nat} {self : Int → Int → (List Kind) → (List (A2iN × Int)) → Option (Int × (List (A2iN × Int)))} {g : _ → Option (Int × (List (A2iN × Int)))} (hn : Nat.beq (nid * 1000 + firstRegion b) 1000011 = true) (hz : Sf38_c11.ok p = true) (h : g (f38_c11 s0 s1 s2 s3 N self) = some r → vc c p nid a st (KHead Sf38_c11 (Yf38_c11 s0 s1 s2 s3) (Xf38_c11 s0 s1 s2 s3) (Jf38_c11 s0 s1 s2 s3 N self r) K)) (h2 : ∀ (v11 : Int), f38_c11 s0 s1 s2 s3 N self v11 = some r → vc c p nid b (St.mk' Sf38_c11 (Vf38_c11 s0 s1 s2 s3 v11) (Bf38_c11 s0 s1 s2 s3 v11)) K) (hF : joinK (f38_c11 s0 s1 s2 s3 N self) g = some r) : vc c p nid (.seq a b) st K :=
  vc_cut Sf38_c11 (Yf38_c11 s0 s1 s2 s3) (Xf38_c11 s0 s1 s2 s3) (Jf38_c11 s0 s1 s2 s3 N self r) hz (h hF) fun y hy => h2 y hy
theorem Zf38_c11 {r : Int × (List (A2iN × Int))} {s0 : Int} {s1 : Int} {s2 : List Kind} {s3 : List (A2iN × Int)} {N : Nat} {self : Int → Int → (List Kind) → (List (A2iN × Int)) → Option (Int × (List (A2iN × Int)))} {v11 : Int} (hF : f38_c11 s0 s1 s2 s3 N self v11 = some r) (h0 : AtH Sf38_c11 st (Vf38_c11 s0 s1 s2 s3 v11) (Bf38_c11 s0 s1 s2 s3 v11)) : KHead Sf38_c11 (Yf38_c11 s0 s1 s2 s3) (Xf38_c11 s0 s1 s2 s3) (Jf38_c11 s0 s1 s2 s3 N self r) K .normal st := by
  exact khead (I := (Jf38_c11 s0 s1 s2 s3 N self r)) (x := (v11)) hF h0
def f38_6b (r6 : Int → Int → Option (Int × (List (A2iN × Int)))) (s0 : Int) (s1 : Int) (s2 : List Kind) (s3 : List (A2iN × Int)) (k2 : Int → Option (Int × (List (A2iN × Int)))) (v11 : Int) (v28 : Int) : Option (Int × (List (A2iN × Int))) :=
 bif decide (v28 < (List.length s2 : Int)) then ((ix s2 v28).bind fun x7 =>
 bif decide (x7.W = s0) then (bif decide (x7.H = s1) then (r6 (max v11 x7.Value) (W (v28 + (1 : Int))))
 else (r6 v11 (W (v28 + (1 : Int)))))
 else (r6 v11 (W (v28 + (1 : Int)))))
 else (k2 v11)
def f38_6 (s0 : Int) (s1 : Int) (s2 : List Kind) (s3 : List (A2iN × Int)) (k2 : Int → Option (Int × (List (A2iN × Int)))) : Nat → Int → Int → Option (Int × (List (A2iN × Int)))
  | 0, _, _ => none
  | n + 1, v11, v28 => f38_6b (f38_6 s0 s1 s2 s3 k2 n) s0 s1 s2 s3 k2 v11 v28
def Sf38_6 : Ann := ⟨[0, 1, 2, 3, 11, 26, 27, 28], [0], [], []⟩
def Vf38_6 (s0 : Int) (s1 : Int) (s2 : List Kind) (s3 : List (A2iN × Int)) (v11 : Int) (v28 : Int) : List SV := [.dat (iN s0), .dat (iN s1), .dat (sl_Kind s2), .mp 0, .dat (iN v11), .dat (sl_Kind s2), .dat (iN (List.length s2 : Int)), .dat (iN v28)]
def Bf38_6 (s0 : Int) (s1 : Int) (s2 : List Kind) (s3 : List (A2iN × Int)) (v11 : Int) (v28 : Int) : List Blk := [.mp (encM A2iN.d iN s3)]
def Yf38_6 (s0 : Int) (s1 : Int) (s2 : List Kind) (s3 : List (A2iN × Int)) (y : Nat × Int × Int) : List SV := Vf38_6 s0 s1 s2 s3 y.2.1 y.2.2
def Xf38_6 (s0 : Int) (s1 : Int) (s2 : List Kind) (s3 : List (A2iN × Int)) (y : Nat × Int × Int) : List Blk := Bf38_6 s0 s1 s2 s3 y.2.1 y.2.2
def Jf38_6 (s0 : Int) (s1 : Int) (s2 : List Kind) (s3 : List (A2iN × Int)) (k2 : Int → Option (Int × (List (A2iN × Int)))) (r : Int × (List (A2iN × Int))) (y : Nat × Int × Int) : Prop := f38_6 s0 s1 s2 s3 k2 y.1 y.2.1 y.2.2 = some r
theorem Lf38_6 {r : Int × (List (A2iN × Int))} {s0 : Int} {s1 : Int} {s2 : List Kind} {s3 : List (A2iN × Int)} {k2 : Int → Option (Int × (List (A2iN × Int)))} {fu : Nat} {v11 : Int} {v28 : Int} (hz : Sf38_6.ok p = true) (h0 : AtH Sf38_6 st (Vf38_6 s0 s1 s2 s3 v11 v28) (Bf38_6 s0 s1 s2 s3 v11 v28)) (h : ∀ (n : Nat) (v11 : Int) (v28 : Int), f38_6b (f38_6 s0 s1 s2 s3 k2 n) s0 s1 s2 s3 k2 v11 v28 = some r → vc c p nid a (St.mk' Sf38_6 (Vf38_6 s0 s1 s2 s3 v11 v28) (Bf38_6 s0 s1 s2 s3 v11 v28)) (Kloop Sf38_6 (Yf38_6 s0 s1 s2 s3) (Xf38_6 s0 s1 s2 s3) (Jf38_6 s0 s1 s2 s3 k2 r) Prod.fst (n + 1, v11, v28) K)) (hF : f38_6 s0 s1 s2 s3 k2 fu v11 v28 = some r) : vc c p nid (.loop a) st K := by
  refine vc_loop Sf38_6 (Yf38_6 s0 s1 s2 s3) (Xf38_6 s0 s1 s2 s3) (Jf38_6 s0 s1 s2 s3 k2 r) Prod.fst hz (kheadL (x := (fu, v11, v28)) hF h0) ?_
  rintro ⟨_ | n, v11, v28⟩ hI
  · cases hI
  · exact h n v11 v28 hI
theorem Mf38_6 {r : Int × (List (A2iN × Int))} {s0 : Int} {s1 : Int} {s2 : List Kind} {s3 : List (A2iN × Int)} {k2 : Int → Option (Int × (List (A2iN × Int)))} {n : Nat} {v11 : Int} {v28 : Int} {v11_ : Int} {v28_ : Int} (hF : f38_6 s0 s1 s2 s3 k2 n v11 v28 = some r) (h0 : AtH Sf38_6 st (Vf38_6 s0 s1 s2 s3 v11 v28) (Bf38_6 s0 s1 s2 s3 v11 v28)) : Kloop Sf38_6 (Yf38_6 s0 s1 s2 s3) (Xf38_6 s0 s1 s2 s3) (Jf38_6 s0 s1 s2 s3 k2 r) Prod.fst (n + 1, v11_, v28_) K .normal st := by
  exact kback (y := (n, v11, v28)) hF (Nat.lt_succ_self n) h0
def f38b (self : Int → Int → (List Kind) → (List (A2iN × Int)) → Option (Int × (List (A2iN × Int)))) (N : Nat) (s0 : Int) (s1 : Int) (s2 : List Kind) (s3 : List (A2iN × Int)) : Option (Int × (List (A2iN × Int))) :=
 (some (lookK (0 : Int) (A2iN.mk s0 s1) s3)).bind fun x1 =>
 bif x1.2 then (some (x1.1, s3))
 else (joinK (f38_c11 s0 s1 s2 s3 N self) fun k2 =>
 f38_6 s0 s1 s2 s3 k2 N (0 : Int) (0 : Int))
def f38 : Nat → Int → Int → (List Kind) → (List (A2iN × Int)) → Option (Int × (List (A2iN × Int)))
  | 0, _, _, _, _ => none
  | N + 1, s0, s1, s2, s3 => f38b (f38 N) N s0 s1 s2 s3
def Af38 (s0 : Int) (s1 : Int) (s2 : List Kind) (s3 : List (A2iN × Int)) : List SV := [.dat (iN s0), .dat (iN s1), .dat (sl_Kind s2), .mp 0]
def Bf38 (s0 : Int) (s1 : Int) (s2 : List Kind) (s3 : List (A2iN × Int)) : List Blk := [.mp (encM A2iN.d iN s3)]
def Rf38 (y : Int × (List (A2iN × Int))) : List SV := [.dat (iN y.1)]
def B1f38 (s0 : Int) (s1 : Int) (s2 : List Kind) (s3 : List (A2iN × Int)) (y : Int × (List (A2iN × Int))) : List Blk := [.mp (encM A2iN.d iN y.2)]
def BZf38 (y : Int × (List (A2iN × Int))) : Blk := .unborn
def Spf38 : Spec (Int × Int × (List Kind) × (List (A2iN × Int))) (Int × (List (A2iN × Int))) := ⟨1, fun x => Af38 x.1 x.2.1 x.2.2.1 x.2.2.2, fun x => Bf38 x.1 x.2.1 x.2.2.1 x.2.2.2, fun _ y => Rf38 y, fun x y => B1f38 x.1 x.2.1 x.2.2.1 x.2.2.2 y, fun _ y => BZf38 y⟩
def H38 (N : Nat) (x : Int × Int × (List Kind) × (List (A2iN × Int))) (y : Int × (List (A2iN × Int))) : Prop := f38 N x.1 x.2.1 x.2.2.1 x.2.2.2 = some y
def G38 (x : Int × Int × (List Kind) × (List (A2iN × Int))) (y : Int × (List (A2iN × Int))) : Prop := ∃ N, H38 N x y
theorem H38.step {N : Nat} {s0 : Int} {s1 : Int} {s2 : List Kind} {s3 : List (A2iN × Int)} {ρ : Type} {A : (Int × (List (A2iN × Int))) → Option ρ} {q : ρ} {xs : List SV} {id : Nat} {m : Nat → Blk} {l : List Loc} {K : Dl → List Loc → Prop} {k0 : Nat} (ha : xs = [.dat (iN s0), .dat (iN s1), .dat (sl_Kind s2), .mp k0]) (b0 : m k0 = .mp (encM A2iN.d iN s3)) (hu : m id = .unborn) (hn : nodupB [k0] = true) (h : ∀ y, A y = some q → K ⟨.dat (iN y.1), [(k0, .mp (encM A2iN.d iN y.2)), (id, .unborn)]⟩ l) (hF : (f38 N s0 s1 s2 s3).bind A = some q) : effPg Spf38 (H38 N) xs id (fun _ => SV.no) m l K := by
  obtain ⟨y, hy, hA⟩ := bind_some hF
  exact eff_step [k0] (s0, s1, s2, s3) y _ hy rfl hn ha (by simp only [List.map_cons, List.map_nil, b0]; rfl) hu rfl rfl (h y hA)
theorem G38.step {N : Nat} {s0 : Int} {s1 : Int} {s2 : List Kind} {s3 : List (A2iN × Int)} {ρ : Type} {A : (Int × (List (A2iN × Int))) → Option ρ} {q : ρ} {xs : List SV} {id : Nat} {m : Nat → Blk} {l : List Loc} {K : Dl → List Loc → Prop} {k0 : Nat} (ha : xs = [.dat (iN s0), .dat (iN s1), .dat (sl_Kind s2), .mp k0]) (b0 : m k0 = .mp (encM A2iN.d iN s3)) (hu : m id = .unborn) (hn : nodupB [k0] = true) (h : ∀ y, A y = some q → K ⟨.dat (iN y.1), [(k0, .mp (encM A2iN.d iN y.2)), (id, .unborn)]⟩ l) (hF : (f38 N s0 s1 s2 s3).bind A = some q) : effPg Spf38 (G38) xs id (fun _ => SV.no) m l K := by
  obtain ⟨y, hy, hA⟩ := bind_some hF
  exact eff_step [k0] (s0, s1, s2, s3) y _ ⟨N, hy⟩ rfl hn ha (by simp only [List.map_cons, List.map_nil, b0]; rfl) hu rfl rfl (h y hA)
def Srf38 : Ann := ⟨[0], [0, 500], [], []⟩
set_option maxRecDepth 20000 in
set_option maxHeartbeats 4000000 in
theorem Q38 (N : Nat) : CallOK Try.prog 38 (effPg Spf38 (H38 N)) := by
  induction N with
  | zero => exact eff_none fun x y h => (by cases (show (none : Option (Int × (List (A2iN × Int)))) = some y from h))
  | succ N ih =>
    refine eff_of_vc (c := mkCtx tyTree [(38, false, effPg Spf38 (H38 N))]) rfl tyOK (ctx_eff (callable Try.func38 rfl rfl) ih (ctx_nil)) 1000 500 Srf38 Try.func38 rfl rfl (by kernel_rfl) rfl rfl rfl rfl rfl (fun _ => rfl) (fun _ => rfl) (fun _ _ => ⟨rfl, rfl⟩) ?_
    rintro ⟨s0, s1, s2, s3⟩ y hF
    have hF : f38b (f38 N) N s0 s1 s2 s3 = some y := hF
    show vc _ _ _ _ ⟨[(0, .dat (iN s0)), (1, .dat (iN s1)), (2, .dat (sl_Kind s2)), (3, .mp 0)], [(0, .mp (encM A2iN.d iN s3))]⟩ _
    unfold f38b at hF
    repeat' (first
      | ((with_reducible refine q0 _ _ ?_); clear Q q0 q1 q2)
      | ((with_reducible refine q1 _ _ _ _ ?_); clear Q q0 q1 q2)
      | ((with_reducible refine q2 _ _ _ ?_); clear Q q0 q1 q2)
      | ((with_reducible refine seq_op ?hx (fun Q q0 q1 q2 => ?_)); (case hx => exact rfl); conv => whnf)
      | ((with_reducible refine seq_op0 ?hx (fun Q q0 q1 q2 => ?_)); (case hx => exact rfl); conv => whnf)
      | ((with_reducible refine seq_off ?hx ?_); (case hx => exact rfl))
      | ((with_reducible refine seq_off0 ?hx ?_); (case hx => exact rfl))
      | ((with_reducible refine seq_id ?_); (first | ((refine seq_opK rfl ?hy (fun Q q0 q1 q2 => ?_)); (case hy => first | assumption | exact notT (by assumption) | exact rfl); conv => whnf) | ((refine seq_offK rfl ?hy ?_); (case hy => first | assumption | exact notF (by assumption) | exact rfl)) | ((refine seq_opK0 rfl ?hy (fun Q q0 q1 q2 => ?_)); (case hy => first | assumption | exact notT (by assumption) | exact rfl); conv => whnf) | ((refine seq_offK0 rfl ?hy ?_); (case hy => first | assumption | exact notF (by assumption) | exact rfl)) | (revert hF; (with_reducible refine seq_opF ?hx ?_ ?_); (case hx => exact rfl); (intro hc hF Q q0 q1 q2; conv => whnf); rotate_left; (intro hc hF); rotate_right) | (revert hF; (with_reducible refine seq_opN ?hx ?_ ?_); (case hx => exact rfl); (intro hc hF); rotate_left; (intro hc hF Q q0 q1 q2; conv => whnf); rotate_right) | (revert hF; (with_reducible refine seq_opF0 ?hx ?_ ?_); (case hx => exact rfl); (intro hc hF Q q0 q1 q2; conv => whnf); rotate_left; (intro hc hF); rotate_right) | (revert hF; (with_reducible refine seq_opN0 ?hx ?_ ?_); (case hx => exact rfl); (intro hc hF); rotate_left; (intro hc hF Q q0 q1 q2; conv => whnf); rotate_right)))
      | ((with_reducible refine cond_id ?_); (first | ((refine condKT rfl ?hy ?_); (case hy => first | assumption | exact notT (by assumption) | exact rfl)) | ((refine condKF rfl ?hy ?_); (case hy => first | assumption | exact notF (by assumption) | exact rfl)) | (revert hF; (with_reducible refine condF ?hx ?_ ?_); (case hx => exact rfl); all_goals (intro hc hF))))
      | ((with_reducible refine seq_nil ?_); (first | ((with_reducible refine hR _ ?_); clear R hR) | ((with_reducible refine hL _ ?_); clear L hL)))
      | ((with_reducible refine int_step ?_); conv => whnf)
      | ((with_reducible refine len_step ?_); conv => whnf)
      | ((with_reducible refine idx2 (by assumption) ?_); conv => whnf)
      | ((with_reducible refine idx3 (by assumption) ?_); conv => whnf)
      | with_reducible refine vc_block ?_
      | with_reducible refine vc_skip ?_
      | with_reducible refine vc_ret ?_
      | with_reducible refine vc_exit ?_
      | ((with_reducible refine vc_seqN [1000019, 1000015, 1000011] ?hx ?_); (case hx => exact rfl))
      | (with_reducible refine vc_region (fun R hR => ?_))
      | fail
      | (revert hF; (refine Cf38_c19 rfl rfl ?_ ?_); (intro hF); rotate_left; (intro v11'' b0' hF; unfold f38_c19 at hF); rotate_right)
      | exact Zf38_c19 hF ⟨_, rfl, rfl, rfl, rfl⟩
      | (revert hF; (refine Lf38_16 rfl ⟨_, rfl, rfl, rfl, rfl⟩ ?_); intro n v11'' v15 b0' hF; unfold f38_16b at hF)
      | exact Mf38_16 hF ⟨_, rfl, rfl, rfl, rfl⟩
      | (revert hF; (refine Cf38_c15 rfl rfl ?_ ?_); (intro hF); rotate_left; (intro v11' b0 hF; unfold f38_c15 at hF); rotate_right)
      | exact Zf38_c15 hF ⟨_, rfl, rfl, rfl, rfl⟩
      | (revert hF; (refine Lf38_12 rfl ⟨_, rfl, rfl, rfl, rfl⟩ ?_); intro n v11' v14 b0 hF; unfold f38_12b at hF)
      | exact Mf38_12 hF ⟨_, rfl, rfl, rfl, rfl⟩
      | (revert hF; (refine Cf38_c11 rfl rfl ?_ ?_); (intro hF); rotate_left; (intro v11 hF; unfold f38_c11 at hF); rotate_right)
      | exact Zf38_c11 hF ⟨_, rfl, rfl, rfl, rfl⟩
      | (revert hF; (refine Lf38_6 rfl ⟨_, rfl, rfl, rfl, rfl⟩ ?_); intro n v11 v28 hF; unfold f38_6b at hF)
      | exact Mf38_6 hF ⟨_, rfl, rfl, rfl, rfl⟩
      | (revert hF; (refine H38.step rfl rfl rfl ?hn ?_); (case hn => exact rfl); intro v hF; conv => whnf)
      | (show retE _ _ _ _ _ _; conv => whnf)
      | (cases hF; exact ⟨rfl, rfl, rfl⟩)
      | (revert hF; (refine look_step (eK := A2iN.d) (eV := iN) A2iN.d_inj ?hk ?hz ?hd ?he ?_); (case hk => exact fun _ => rfl); (case hz => exact rfl); (case hd => exact rfl); (case he => exact rfl); intro x hF; conv => whnf)
      | (revert hF; (refine put_step (eK := A2iN.d) (eV := iN) A2iN.d_inj ?hk ?hv ?hd ?he ?_); (case hk => exact fun _ => rfl); (case hv => exact rfl); (case hd => exact rfl); (case he => exact rfl); intro x hF; conv => whnf)
      | with_reducible refine k_seq_ret ?_
      | with_reducible refine k_seq_exit ?_
      | with_reducible refine k_blk ?_
      | with_reducible refine k_blk_ret ?_
      | with_reducible refine k_blk_here ?_
      | ((with_reducible refine k_blk_out ?hx ?_); (case hx => exact rfl))
      | with_reducible refine k_loop_ret ?_
      | with_reducible refine k_loop_exit ?_
      | (revert hF; (with_reducible refine idx1 ?hn ?_); (case hn => first | exact rfl | exact (List.length_map _) | assumption | omega | simp); intro x hx hF; conv => whnf)
      | ((refine row_all ?hn ?_); (case hn => first | exact rfl | (simp; done) | (simp; omega)); conv => whnf)
      | ((with_reducible refine le_step ?hn ?_); (case hn => first | exact rfl | assumption | omega); conv => whnf)
      | ((refine ⟨?hx, ?_⟩); (case hx => exact ⟨rfl, Nat.le_of_ble_eq_true rfl, rfl⟩); conv => whnf)
      | ((with_reducible refine ex_step ?_); conv => whnf)
      | ((with_reducible refine both_T ?hx ?_); (case hx => first | exact rfl | assumption | exact notT (by assumption)); conv => whnf)
      | ((with_reducible refine both_F ?hx ?_); (case hx => first | exact rfl | assumption | exact notF (by assumption)); conv => whnf)
      | (revert hF; (with_reducible refine ite_step ?_ ?_) <;> (intro hc hF; conv => whnf))
      | ((with_reducible refine vc_condT ?hx ?_); (case hx => exact rfl))
      | ((with_reducible refine vc_condF ?hx ?_); (case hx => exact rfl))
      | (show retD _ _ _ _ _ _; conv => whnf)
      | ((refine ⟨?hx, trivial⟩); (case hx => (cases hF; exact rfl)))
      | ((refine ⟨?hx, ?_⟩); (case hx => decide); conv => whnf)
      | ((with_reducible refine k_seq ?_))
      | (have hF : (none : Option _) = some _ := hF; cases hF))
theorem P38 : CallOK Try.prog 38 (effPg Spf38 G38) := eff_ex Q38
end
end Go.Vc
namespace Go.Vc
open Go.Proofs
set_option linter.unusedVariables false
set_option linter.unnecessarySimpa false
set_option linter.unusedSimpArgs false
section
variable {c : Ctx} {p nid : Nat} {a b : Code} {st : St} {K : Ex → St → Prop}
/- f10: tusche/tuschelaw06.CutMost -/
def f10_c33 (N : Nat) (x1 : List Kind) (x2 : Int × (List (A2iN × Int))) (x4 : Layout × Int) (v13 : Int) : Option (Bool) :=
 (f17 N x4.1 x1).bind fun x6 =>
 bif decide (v13 = x2.1) then (bif decide (x6.2 = (0 : Int)) then (bif decide (x6.1 = x2.1) then ((f33 N x4.1.Labels).bind fun x7 =>
 bif x7 then ((f13 N ).bind fun x8 =>
 some (x8))
 else (some (false)))
 else (some (false)))
 else (some (false)))
 else (some (false))
def Sf10_c33 : Ann := ⟨[5, 8, 11, 13], [507], [], []⟩
def Vf10_c33 (x1 : List Kind) (x2 : Int × (List (A2iN × Int))) (x4 : Layout × Int) (v13 : Int) : List SV := [.dat (sl_Kind x1), .dat (iN x2.1), .ptr 507 0, .dat (iN v13)]
def Bf10_c33 (x1 : List Kind) (x2 : Int × (List (A2iN × Int))) (x4 : Layout × Int) (v13 : Int) : List Blk := [.box [.dat (iN x4.1.W), .dat (iN x4.1.H), .dat (sl_Label x4.1.Labels)]]
def Yf10_c33 (x1 : List Kind) (x2 : Int × (List (A2iN × Int))) (x4 : Layout × Int) (y : Int) : List SV := Vf10_c33 x1 x2 x4 y
def Xf10_c33 (x1 : List Kind) (x2 : Int × (List (A2iN × Int))) (x4 : Layout × Int) (y : Int) : List Blk := Bf10_c33 x1 x2 x4 y
def Jf10_c33 (N : Nat) (x1 : List Kind) (x2 : Int × (List (A2iN × Int))) (x4 : Layout × Int) (r : Bool) (y : Int) : Prop := f10_c33 N x1 x2 x4 y = some r
theorem Cf10_c33 {r : Bool} {N : Nat} {x1 : List Kind} {x2 : Int × (List (A2iN × Int))} {x4 : Layout × Int} {g : _ → Option (Bool)} (hn : Nat.beq (nid * 1000 + firstRegion b) 33 = true) (hz : Sf10_c33.ok p = true) (h : g (f10_c33 N x1 x2 x4) = some r → vc c p nid a st (KHead Sf10_c33 (Yf10_c33 x1 x2 x4) (Xf10_c33 x1 x2 x4) (Jf10_c33 N x1 x2 x4 r) K)) (h2 : ∀ (v13 : Int), f10_c33 N x1 x2 x4 v13 = some r → vc c p nid b (St.mk' Sf10_c33 (Vf10_c33 x1 x2 x4 v13) (Bf10_c33 x1 x2 x4 v13)) K) (hF : joinK (f10_c33 N x1 x2 x4) g = some r) : vc c p nid (.seq a b) st K :=
  vc_cut Sf10_c33 (Yf10_c33 x1 x2 x4) (Xf10_c33 x1 x2 x4) (Jf10_c33 N x1 x2 x4 r) hz (h hF) fun y hy => h2 y hy
theorem Zf10_c33 {r : Bool} {N : Nat} {x1 : List Kind} {x2 : Int × (List (A2iN × Int))} {x4 : Layout × Int} {v13 : Int} (hF : f10_c33 N x1 x2 x4 v13 = some r) (h0 : AtH Sf10_c33 st (Vf10_c33 x1 x2 x4 v13) (Bf10_c33 x1 x2 x4 v13)) : KHead Sf10_c33 (Yf10_c33 x1 x2 x4) (Xf10_c33 x1 x2 x4) (Jf10_c33 N x1 x2 x4 r) K .normal st := by
  exact khead (I := (Jf10_c33 N x1 x2 x4 r)) (x := (v13)) hF h0
def f10_c32 (a1 : A2u8N) (x1 : List Kind) (x2 : Int × (List (A2iN × Int))) (x4 : Layout × Int) (v93 : Int) (r14 : Int → Int → Option (Bool)) (v13' : Int) : Option (Bool) :=
 r14 (v13') (W (v93 + (1 : Int)))
def Sf10_c32 : Ann := ⟨[5, 6, 7, 8, 11, 13, 91, 92, 93], [507], [], []⟩
def Vf10_c32 (a1 : A2u8N) (x1 : List Kind) (x2 : Int × (List (A2iN × Int))) (x4 : Layout × Int) (v93 : Int) (v13' : Int) : List SV := [.dat (sl_Kind x1), .dat (iN (W ((1 : Int) + (Int.tmod a1.e0 (8 : Int))))), .dat (iN (W ((1 : Int) + (Int.tmod a1.e1 (8 : Int))))), .dat (iN x2.1), .ptr 507 0, .dat (iN (v13')), .dat (sl_Label x4.1.Labels), .dat (iN (List.length x4.1.Labels : Int)), .dat (iN v93)]
def Bf10_c32 (a1 : A2u8N) (x1 : List Kind) (x2 : Int × (List (A2iN × Int))) (x4 : Layout × Int) (v93 : Int) (v13' : Int) : List Blk := [.box [.dat (iN x4.1.W), .dat (iN x4.1.H), .dat (sl_Label x4.1.Labels)]]
def Yf10_c32 (a1 : A2u8N) (x1 : List Kind) (x2 : Int × (List (A2iN × Int))) (x4 : Layout × Int) (v93 : Int) (y : Int) : List SV := Vf10_c32 a1 x1 x2 x4 v93 y
def Xf10_c32 (a1 : A2u8N) (x1 : List Kind) (x2 : Int × (List (A2iN × Int))) (x4 : Layout × Int) (v93 : Int) (y : Int) : List Blk := Bf10_c32 a1 x1 x2 x4 v93 y
def Jf10_c32 (a1 : A2u8N) (x1 : List Kind) (x2 : Int × (List (A2iN × Int))) (x4 : Layout × Int) (v93 : Int) (r14 : Int → Int → Option (Bool)) (r : Bool) (y : Int) : Prop := f10_c32 a1 x1 x2 x4 v93 r14 y = some r
theorem Cf10_c32 {r : Bool} {a1 : A2u8N} {x1 : List Kind} {x2 : Int × (List (A2iN × Int))} {x4 : Layout × Int} {v93 : Int} {r14 : Int → Int → Option (Bool)} {g : _ → Option (Bool)} (hn : Nat.beq (nid * 1000 + firstRegion b) 32 = true) (hz : Sf10_c32.ok p = true) (h : g (f10_c32 a1 x1 x2 x4 v93 r14) = some r → vc c p nid a st (KHead Sf10_c32 (Yf10_c32 a1 x1 x2 x4 v93) (Xf10_c32 a1 x1 x2 x4 v93) (Jf10_c32 a1 x1 x2 x4 v93 r14 r) K)) (h2 : ∀ (v13' : Int), f10_c32 a1 x1 x2 x4 v93 r14 v13' = some r → vc c p nid b (St.mk' Sf10_c32 (Vf10_c32 a1 x1 x2 x4 v93 v13') (Bf10_c32 a1 x1 x2 x4 v93 v13')) K) (hF : joinK (f10_c32 a1 x1 x2 x4 v93 r14) g = some r) : vc c p nid (.seq a b) st K :=
  vc_cut Sf10_c32 (Yf10_c32 a1 x1 x2 x4 v93) (Xf10_c32 a1 x1 x2 x4 v93) (Jf10_c32 a1 x1 x2 x4 v93 r14 r) hz (h hF) fun y hy => h2 y hy
theorem Zf10_c32 {r : Bool} {a1 : A2u8N} {x1 : List Kind} {x2 : Int × (List (A2iN × Int))} {x4 : Layout × Int} {v93 : Int} {r14 : Int → Int → Option (Bool)} {v13' : Int} (hF : f10_c32 a1 x1 x2 x4 v93 r14 v13' = some r) (h0 : AtH Sf10_c32 st (Vf10_c32 a1 x1 x2 x4 v93 v13') (Bf10_c32 a1 x1 x2 x4 v93 v13')) : KHead Sf10_c32 (Yf10_c32 a1 x1 x2 x4 v93) (Xf10_c32 a1 x1 x2 x4 v93) (Jf10_c32 a1 x1 x2 x4 v93 r14 r) K .normal st := by
  exact khead (I := (Jf10_c32 a1 x1 x2 x4 v93 r14 r)) (x := (v13')) hF h0
def f10_c31 (a1 : A2u8N) (x1 : List Kind) (x2 : Int × (List (A2iN × Int))) (x4 : Layout × Int) (v13 : Int) (v93 : Int) (k1 : Int → Option (Bool)) (v16 : Int) : Option (Bool) :=
 k1 (W (v13 + v16))
def Sf10_c31 : Ann := ⟨[5, 6, 7, 8, 11, 13, 16, 91, 92, 93], [507], [], []⟩
def Vf10_c31 (a1 : A2u8N) (x1 : List Kind) (x2 : Int × (List (A2iN × Int))) (x4 : Layout × Int) (v13 : Int) (v93 : Int) (v16 : Int) : List SV := [.dat (sl_Kind x1), .dat (iN (W ((1 : Int) + (Int.tmod a1.e0 (8 : Int))))), .dat (iN (W ((1 : Int) + (Int.tmod a1.e1 (8 : Int))))), .dat (iN x2.1), .ptr 507 0, .dat (iN v13), .dat (iN v16), .dat (sl_Label x4.1.Labels), .dat (iN (List.length x4.1.Labels : Int)), .dat (iN v93)]
def Bf10_c31 (a1 : A2u8N) (x1 : List Kind) (x2 : Int × (List (A2iN × Int))) (x4 : Layout × Int) (v13 : Int) (v93 : Int) (v16 : Int) : List Blk := [.box [.dat (iN x4.1.W), .dat (iN x4.1.H), .dat (sl_Label x4.1.Labels)]]
def Yf10_c31 (a1 : A2u8N) (x1 : List Kind) (x2 : Int × (List (A2iN × Int))) (x4 : Layout × Int) (v13 : Int) (v93 : Int) (v16 : Int) (y : Unit) : List SV := Vf10_c31 a1 x1 x2 x4 v13 v93 v16
def Xf10_c31 (a1 : A2u8N) (x1 : List Kind) (x2 : Int × (List (A2iN × Int))) (x4 : Layout × Int) (v13 : Int) (v93 : Int) (v16 : Int) (y : Unit) : List Blk := Bf10_c31 a1 x1 x2 x4 v13 v93 v16
def Jf10_c31 (a1 : A2u8N) (x1 : List Kind) (x2 : Int × (List (A2iN × Int))) (x4 : Layout × Int) (v13 : Int) (v93 : Int) (k1 : Int → Option (Bool)) (v16 : Int) (r : Bool) (y : Unit) : Prop := f10_c31 a1 x1 x2 x4 v13 v93 k1 v16 = some r
theorem Cf10_c31 {r : Bool} {a1 : A2u8N} {x1 : List Kind} {x2 : Int × (List (A2iN × Int))} {x4 : Layout × Int} {v13 : Int} {v93 : Int} {k1 : Int → Option (Bool)} {v16 : Int} {g : _ → Option (Bool)} (hn : Nat.beq (nid * 1000 + firstRegion b) 31 = true) (hz : Sf10_c31.ok p = true) (h : g (f10_c31 a1 x1 x2 x4 v13 v93 k1 v16) = some r → vc c p nid a st (KHead Sf10_c31 (Yf10_c31 a1 x1 x2 x4 v13 v93 v16) (Xf10_c31 a1 x1 x2 x4 v13 v93 v16) (Jf10_c31 a1 x1 x2 x4 v13 v93 k1 v16 r) K)) (h2 : ∀ (_ : Unit), f10_c31 a1 x1 x2 x4 v13 v93 k1 v16 = some r → vc c p nid b (St.mk' Sf10_c31 (Vf10_c31 a1 x1 x2 x4 v13 v93 v16) (Bf10_c31 a1 x1 x2 x4 v13 v93 v16)) K) (hF : joinK (f10_c31 a1 x1 x2 x4 v13 v93 k1 v16) g = some r) : vc c p nid (.seq a b) st K :=
  vc_cut Sf10_c31 (Yf10_c31 a1 x1 x2 x4 v13 v93 v16) (Xf10_c31 a1 x1 x2 x4 v13 v93 v16) (Jf10_c31 a1 x1 x2 x4 v13 v93 k1 v16 r) hz (h hF) fun y hy => h2 () hy
theorem Zf10_c31 {r : Bool} {a1 : A2u8N} {x1 : List Kind} {x2 : Int × (List (A2iN × Int))} {x4 : Layout × Int} {v13 : Int} {v93 : Int} {k1 : Int → Option (Bool)} {v16 : Int} (hF : f10_c31 a1 x1 x2 x4 v13 v93 k1 v16 = some r) (h0 : AtH Sf10_c31 st (Vf10_c31 a1 x1 x2 x4 v13 v93 v16) (Bf10_c31 a1 x1 x2 x4 v13 v93 v16)) : KHead Sf10_c31 (Yf10_c31 a1 x1 x2 x4 v13 v93 v16) (Xf10_c31 a1 x1 x2 x4 v13 v93 v16) (Jf10_c31 a1 x1 x2 x4 v13 v93 k1 v16 r) K .normal st := by
  exact khead (I := (Jf10_c31 a1 x1 x2 x4 v13 v93 k1 v16 r)) (x := ()) hF h0
def f10_26b (r26 : Int → Option (Bool)) (a1 : A2u8N) (N : Nat) (x1 : List Kind) (x2 : Int × (List (A2iN × Int))) (x4 : Layout × Int) (v13 : Int) (v93 : Int) (x9 : Label) (v16 : Int) (k2 : Option (Bool)) (x10 : List Label) (v156 : Int) : Option (Bool) :=
 bif decide (v156 < (List.length x10 : Int)) then ((ix x10 v156).bind fun x11 =>
 (f35 N x9 x11).bind fun x12 =>
 bif x12 then (some (false))
 else (r26 (W (v156 + (1 : Int)))))
 else k2
def f10_26 (a1 : A2u8N) (N : Nat) (x1 : List Kind) (x2 : Int × (List (A2iN × Int))) (x4 : Layout × Int) (v13 : Int) (v93 : Int) (x9 : Label) (v16 : Int) (k2 : Option (Bool)) (x10 : List Label) : Nat → Int → Option (Bool)
  | 0, _ => none
  | n + 1, v156 => f10_26b (f10_26 a1 N x1 x2 x4 v13 v93 x9 v16 k2 x10 n) a1 N x1 x2 x4 v13 v93 x9 v16 k2 x10 v156
def Sf10_26 : Ann := ⟨[5, 6, 7, 8, 11, 13, 15, 16, 91, 92, 93, 154, 155, 156], [507, 1503], [], []⟩
def Vf10_26 (a1 : A2u8N) (x1 : List Kind) (x2 : Int × (List (A2iN × Int))) (x4 : Layout × Int) (v13 : Int) (v93 : Int) (x9 : Label) (v16 : Int) (x10 : List Label) (v156 : Int) : List SV := [.dat (sl_Kind x1), .dat (iN (W ((1 : Int) + (Int.tmod a1.e0 (8 : Int))))), .dat (iN (W ((1 : Int) + (Int.tmod a1.e1 (8 : Int))))), .dat (iN x2.1), .ptr 507 0, .dat (iN v13), .ptr 1503 0, .dat (iN v16), .dat (sl_Label x4.1.Labels), .dat (iN (List.length x4.1.Labels : Int)), .dat (iN v93), .dat (sl_Label x10), .dat (iN (List.length x10 : Int)), .dat (iN v156)]
def Bf10_26 (a1 : A2u8N) (x1 : List Kind) (x2 : Int × (List (A2iN × Int))) (x4 : Layout × Int) (v13 : Int) (v93 : Int) (x9 : Label) (v16 : Int) (x10 : List Label) (v156 : Int) : List Blk := [.box [.dat (iN x4.1.W), .dat (iN x4.1.H), .dat (sl_Label x4.1.Labels)], .box [.dat (iN x9.X), .dat (iN x9.Y), .dat (iN x9.W), .dat (iN x9.H)]]
def Yf10_26 (a1 : A2u8N) (x1 : List Kind) (x2 : Int × (List (A2iN × Int))) (x4 : Layout × Int) (v13 : Int) (v93 : Int) (x9 : Label) (v16 : Int) (x10 : List Label) (y : Nat × Int) : List SV := Vf10_26 a1 x1 x2 x4 v13 v93 x9 v16 x10 y.2
def Xf10_26 (a1 : A2u8N) (x1 : List Kind) (x2 : Int × (List (A2iN × Int))) (x4 : Layout × Int) (v13 : Int) (v93 : Int) (x9 : Label) (v16 : Int) (x10 : List Label) (y : Nat × Int) : List Blk := Bf10_26 a1 x1 x2 x4 v13 v93 x9 v16 x10 y.2
def Jf10_26 (a1 : A2u8N) (N : Nat) (x1 : List Kind) (x2 : Int × (List (A2iN × Int))) (x4 : Layout × Int) (v13 : Int) (v93 : Int) (x9 : Label) (v16 : Int) (k2 : Option (Bool)) (x10 : List Label) (r : Bool) (y : Nat × Int) : Prop := f10_26 a1 N x1 x2 x4 v13 v93 x9 v16 k2 x10 y.1 y.2 = some r
theorem Lf10_26 {r : Bool} {a1 : A2u8N} {N : Nat} {x1 : List Kind} {x2 : Int × (List (A2iN × Int))} {x4 : Layout × Int} {v13 : Int} {v93 : Int} {x9 : Label} {v16 : Int} {k2 : Option (Bool)} {x10 : List Label} {fu : Nat} {v156 : Int} (hz : Sf10_26.ok p = true) (h0 : AtH Sf10_26 st (Vf10_26 a1 x1 x2 x4 v13 v93 x9 v16 x10 v156) (Bf10_26 a1 x1 x2 x4 v13 v93 x9 v16 x10 v156)) (h : ∀ (n : Nat) (v156 : Int), f10_26b (f10_26 a1 N x1 x2 x4 v13 v93 x9 v16 k2 x10 n) a1 N x1 x2 x4 v13 v93 x9 v16 k2 x10 v156 = some r → vc c p nid a (St.mk' Sf10_26 (Vf10_26 a1 x1 x2 x4 v13 v93 x9 v16 x10 v156) (Bf10_26 a1 x1 x2 x4 v13 v93 x9 v16 x10 v156)) (Kloop Sf10_26 (Yf10_26 a1 x1 x2 x4 v13 v93 x9 v16 x10) (Xf10_26 a1 x1 x2 x4 v13 v93 x9 v16 x10) (Jf10_26 a1 N x1 x2 x4 v13 v93 x9 v16 k2 x10 r) Prod.fst (n + 1, v156) K)) (hF : f10_26 a1 N x1 x2 x4 v13 v93 x9 v16 k2 x10 fu v156 = some r) : vc c p nid (.loop a) st K := by
  refine vc_loop Sf10_26 (Yf10_26 a1 x1 x2 x4 v13 v93 x9 v16 x10) (Xf10_26 a1 x1 x2 x4 v13 v93 x9 v16 x10) (Jf10_26 a1 N x1 x2 x4 v13 v93 x9 v16 k2 x10 r) Prod.fst hz (kheadL (x := (fu, v156)) hF h0) ?_
  rintro ⟨_ | n, v156⟩ hI
  · cases hI
  · exact h n v156 hI
theorem Mf10_26 {r : Bool} {a1 : A2u8N} {N : Nat} {x1 : List Kind} {x2 : Int × (List (A2iN × Int))} {x4 : Layout × Int} {v13 : Int} {v93 : Int} {x9 : Label} {v16 : Int} {k2 : Option (Bool)} {x10 : List Label} {n : Nat} {v156 : Int} {v156_ : Int} (hF : f10_26 a1 N x1 x2 x4 v13 v93 x9 v16 k2 x10 n v156 = some r) (h0 : AtH Sf10_26 st (Vf10_26 a1 x1 x2 x4 v13 v93 x9 v16 x10 v156) (Bf10_26 a1 x1 x2 x4 v13 v93 x9 v16 x10 v156)) : Kloop Sf10_26 (Yf10_26 a1 x1 x2 x4 v13 v93 x9 v16 x10) (Xf10_26 a1 x1 x2 x4 v13 v93 x9 v16 x10) (Jf10_26 a1 N x1 x2 x4 v13 v93 x9 v16 k2 x10 r) Prod.fst (n + 1, v156_) K .normal st := by
  exact kback (y := (n, v156)) hF (Nat.lt_succ_self n) h0
def f10_c23 (a1 : A2u8N) (N : Nat) (x1 : List Kind) (x2 : Int × (List (A2iN × Int))) (x4 : Layout × Int) (v13 : Int) (v93 : Int) (k1 : Int → Option (Bool)) (x9 : Label) (v16 : Int) : Option (Bool) :=
 bif decide (v16 < (0 : Int)) then (some (false))
 else (bif decide (x9.X < (0 : Int)) then (some (false))
 else (bif decide (x9.Y < (0 : Int)) then (some (false))
 else (bif decide ((W ((1 : Int) + (Int.tmod a1.e0 (8 : Int)))) < (W (x9.X + x9.W))) then (some (false))
 else (bif decide ((W ((1 : Int) + (Int.tmod a1.e1 (8 : Int)))) < (W (x9.Y + x9.H))) then (some (false))
 else (joinK (f10_c31 a1 x1 x2 x4 v13 v93 k1 v16) fun k2 =>
 (sub x4.1.Labels 0 v93).bind fun x10 =>
 f10_26 a1 N x1 x2 x4 v13 v93 x9 v16 k2 x10 N (0 : Int))))))
def Sf10_c23 : Ann := ⟨[5, 6, 7, 8, 11, 13, 14, 15, 16, 91, 92, 93], [507, 1503], [], []⟩
def Vf10_c23 (a1 : A2u8N) (x1 : List Kind) (x2 : Int × (List (A2iN × Int))) (x4 : Layout × Int) (v13 : Int) (v93 : Int) (x9 : Label) (v16 : Int) : List SV := [.dat (sl_Kind x1), .dat (iN (W ((1 : Int) + (Int.tmod a1.e0 (8 : Int))))), .dat (iN (W ((1 : Int) + (Int.tmod a1.e1 (8 : Int))))), .dat (iN x2.1), .ptr 507 0, .dat (iN v13), .dat (iN v93), .ptr 1503 0, .dat (iN v16), .dat (sl_Label x4.1.Labels), .dat (iN (List.length x4.1.Labels : Int)), .dat (iN v93)]
def Bf10_c23 (a1 : A2u8N) (x1 : List Kind) (x2 : Int × (List (A2iN × Int))) (x4 : Layout × Int) (v13 : Int) (v93 : Int) (x9 : Label) (v16 : Int) : List Blk := [.box [.dat (iN x4.1.W), .dat (iN x4.1.H), .dat (sl_Label x4.1.Labels)], .box [.dat (iN x9.X), .dat (iN x9.Y), .dat (iN x9.W), .dat (iN x9.H)]]
def Yf10_c23 (a1 : A2u8N) (x1 : List Kind) (x2 : Int × (List (A2iN × Int))) (x4 : Layout × Int) (v13 : Int) (v93 : Int) (x9 : Label) (y : Int) : List SV := Vf10_c23 a1 x1 x2 x4 v13 v93 x9 y
def Xf10_c23 (a1 : A2u8N) (x1 : List Kind) (x2 : Int × (List (A2iN × Int))) (x4 : Layout × Int) (v13 : Int) (v93 : Int) (x9 : Label) (y : Int) : List Blk := Bf10_c23 a1 x1 x2 x4 v13 v93 x9 y
def Jf10_c23 (a1 : A2u8N) (N : Nat) (x1 : List Kind) (x2 : Int × (List (A2iN × Int))) (x4 : Layout × Int) (v13 : Int) (v93 : Int) (k1 : Int → Option (Bool)) (x9 : Label) (r : Bool) (y : Int) : Prop := f10_c23 a1 N x1 x2 x4 v13 v93 k1 x9 y = some r
theorem Cf10_c23 {r : Bool} {a1 : A2u8N} {N : Nat} {x1 : List Kind} {x2 : Int × (List (A2iN × Int))} {x4 : Layout × Int} {v13 : Int} {v93 : Int} {k1 : Int → Option (Bool)} {x9 : Label} {g : _ → Option (Bool)} (hn : Nat.beq (nid * 1000 + firstRegion b) 23 = true) (hz : Sf10_c23.ok p = true) (h : g (f10_c23 a1 N x1 x2 x4 v13 v93 k1 x9) = some r → vc c p nid a st (KHead Sf10_c23 (Yf10_c23 a1 x1 x2 x4 v13 v93 x9) (Xf10_c23 a1 x1 x2 x4 v13 v93 x9) (Jf10_c23 a1 N x1 x2 x4 v13 v93 k1 x9 r) K)) (h2 : ∀ (v16 : Int), f10_c23 a1 N x1 x2 x4 v13 v93 k1 x9 v16 = some r → vc c p nid b (St.mk' Sf10_c23 (Vf10_c23 a1 x1 x2 x4 v13 v93 x9 v16) (Bf10_c23 a1 x1 x2 x4 v13 v93 x9 v16)) K) (hF : joinK (f10_c23 a1 N x1 x2 x4 v13 v93 k1 x9) g = some r) : vc c p nid (.seq a b) st K :=
  vc_cut Sf10_c23 (Yf10_c23 a1 x1 x2 x4 v13 v93 x9) (Xf10_c23 a1 x1 x2 x4 v13 v93 x9) (Jf10_c23 a1 N x1 x2 x4 v13 v93 k1 x9 r) hz (h hF) fun y hy => h2 y hy
theorem Zf10_c23 {r : Bool} {a1 : A2u8N} {N : Nat} {x1 : List Kind} {x2 : Int × (List (A2iN × Int))} {x4 : Layout × Int} {v13 : Int} {v93 : Int} {k1 : Int → Option (Bool)} {x9 : Label} {v16 : Int} (hF : f10_c23 a1 N x1 x2 x4 v13 v93 k1 x9 v16 = some r) (h0 : AtH Sf10_c23 st (Vf10_c23 a1 x1 x2 x4 v13 v93 x9 v16) (Bf10_c23 a1 x1 x2 x4 v13 v93 x9 v16)) : KHead Sf10_c23 (Yf10_c23 a1 x1 x2 x4 v13 v93 x9) (Xf10_c23 a1 x1 x2 x4 v13 v93 x9) (Jf10_c23 a1 N x1 x2 x4 v13 v93 k1 x9 r) K .normal st := by
  exact khead (I := (Jf10_c23 a1 N x1 x2 x4 v13 v93 k1 x9 r)) (x := (v16)) hF h0
def f10_18b (r18 : Int → Int → Option (Bool)) (a1 : A2u8N) (x1 : List Kind) (x2 : Int × (List (A2iN × Int))) (x4 : Layout × Int) (v13 : Int) (v93 : Int) (x9 : Label) (k3 : Int → Option (Bool)) (v16 : Int) (v100 : Int) : Option (Bool) :=
 bif decide (v100 < (List.length x1 : Int)) then ((ix x1 v100).bind fun x13 =>
 bif decide (x13.W = x9.W) then (bif decide (x13.H = x9.H) then (r18 (max v16 x13.Value) (W (v100 + (1 : Int))))
 else (r18 v16 (W (v100 + (1 : Int)))))
 else (r18 v16 (W (v100 + (1 : Int)))))
 else (k3 v16)
def f10_18 (a1 : A2u8N) (x1 : List Kind) (x2 : Int × (List (A2iN × Int))) (x4 : Layout × Int) (v13 : Int) (v93 : Int) (x9 : Label) (k3 : Int → Option (Bool)) : Nat → Int → Int → Option (Bool)
  | 0, _, _ => none
  | n + 1, v16, v100 => f10_18b (f10_18 a1 x1 x2 x4 v13 v93 x9 k3 n) a1 x1 x2 x4 v13 v93 x9 k3 v16 v100
def Sf10_18 : Ann := ⟨[5, 6, 7, 8, 11, 13, 14, 15, 16, 91, 92, 93, 98, 99, 100], [507, 1503], [], []⟩
def Vf10_18 (a1 : A2u8N) (x1 : List Kind) (x2 : Int × (List (A2iN × Int))) (x4 : Layout × Int) (v13 : Int) (v93 : Int) (x9 : Label) (v16 : Int) (v100 : Int) : List SV := [.dat (sl_Kind x1), .dat (iN (W ((1 : Int) + (Int.tmod a1.e0 (8 : Int))))), .dat (iN (W ((1 : Int) + (Int.tmod a1.e1 (8 : Int))))), .dat (iN x2.1), .ptr 507 0, .dat (iN v13), .dat (iN v93), .ptr 1503 0, .dat (iN v16), .dat (sl_Label x4.1.Labels), .dat (iN (List.length x4.1.Labels : Int)), .dat (iN v93), .dat (sl_Kind x1), .dat (iN (List.length x1 : Int)), .dat (iN v100)]
def Bf10_18 (a1 : A2u8N) (x1 : List Kind) (x2 : Int × (List (A2iN × Int))) (x4 : Layout × Int) (v13 : Int) (v93 : Int) (x9 : Label) (v16 : Int) (v100 : Int) : List Blk := [.box [.dat (iN x4.1.W), .dat (iN x4.1.H), .dat (sl_Label x4.1.Labels)], .box [.dat (iN x9.X), .dat (iN x9.Y), .dat (iN x9.W), .dat (iN x9.H)]]
def Yf10_18 (a1 : A2u8N) (x1 : List Kind) (x2 : Int × (List (A2iN × Int))) (x4 : Layout × Int) (v13 : Int) (v93 : Int) (x9 : Label) (y : Nat × Int × Int) : List SV := Vf10_18 a1 x1 x2 x4 v13 v93 x9 y.2.1 y.2.2
def Xf10_18 (a1 : A2u8N) (x1 : List Kind) (x2 : Int × (List (A2iN × Int))) (x4 : Layout × Int) (v13 : Int) (v93 : Int) (x9 : Label) (y : Nat × Int × Int) : List Blk := Bf10_18 a1 x1 x2 x4 v13 v93 x9 y.2.1 y.2.2
def Jf10_18 (a1 : A2u8N) (x1 : List Kind) (x2 : Int × (List (A2iN × Int))) (x4 : Layout × Int) (v13 : Int) (v93 : Int) (x9 : Label) (k3 : Int → Option (Bool)) (r : Bool) (y : Nat × Int × Int) : Prop := f10_18 a1 x1 x2 x4 v13 v93 x9 k3 y.1 y.2.1 y.2.2 = some r
theorem Lf10_18 {r : Bool} {a1 : A2u8N} {x1 : List Kind} {x2 : Int × (List (A2iN × Int))} {x4 : Layout × Int} {v13 : Int} {v93 : Int} {x9 : Label} {k3 : Int → Option (Bool)} {fu : Nat} {v16 : Int} {v100 : Int} (hz : Sf10_18.ok p = true) (h0 : AtH Sf10_18 st (Vf10_18 a1 x1 x2 x4 v13 v93 x9 v16 v100) (Bf10_18 a1 x1 x2 x4 v13 v93 x9 v16 v100)) (h : ∀ (n : Nat) (v16 : Int) (v100 : Int), f10_18b (f10_18 a1 x1 x2 x4 v13 v93 x9 k3 n) a1 x1 x2 x4 v13 v93 x9 k3 v16 v100 = some r → vc c p nid a (St.mk' Sf10_18 (Vf10_18 a1 x1 x2 x4 v13 v93 x9 v16 v100) (Bf10_18 a1 x1 x2 x4 v13 v93 x9 v16 v100)) (Kloop Sf10_18 (Yf10_18 a1 x1 x2 x4 v13 v93 x9) (Xf10_18 a1 x1 x2 x4 v13 v93 x9) (Jf10_18 a1 x1 x2 x4 v13 v93 x9 k3 r) Prod.fst (n + 1, v16, v100) K)) (hF : f10_18 a1 x1 x2 x4 v13 v93 x9 k3 fu v16 v100 = some r) : vc c p nid (.loop a) st K := by
  refine vc_loop Sf10_18 (Yf10_18 a1 x1 x2 x4 v13 v93 x9) (Xf10_18 a1 x1 x2 x4 v13 v93 x9) (Jf10_18 a1 x1 x2 x4 v13 v93 x9 k3 r) Prod.fst hz (kheadL (x := (fu, v16, v100)) hF h0) ?_
  rintro ⟨_ | n, v16, v100⟩ hI
  · cases hI
  · exact h n v16 v100 hI
theorem Mf10_18 {r : Bool} {a1 : A2u8N} {x1 : List Kind} {x2 : Int × (List (A2iN × Int))} {x4 : Layout × Int} {v13 : Int} {v93 : Int} {x9 : Label} {k3 : Int → Option (Bool)} {n : Nat} {v16 : Int} {v100 : Int} {v16_ : Int} {v100_ : Int} (hF : f10_18 a1 x1 x2 x4 v13 v93 x9 k3 n v16 v100 = some r) (h0 : AtH Sf10_18 st (Vf10_18 a1 x1 x2 x4 v13 v93 x9 v16 v100) (Bf10_18 a1 x1 x2 x4 v13 v93 x9 v16 v100)) : Kloop Sf10_18 (Yf10_18 a1 x1 x2 x4 v13 v93 x9) (Xf10_18 a1 x1 x2 x4 v13 v93 x9) (Jf10_18 a1 x1 x2 x4 v13 v93 x9 k3 r) Prod.fst (n + 1, v16_, v100_) K .normal st := by
  exact kback (y := (n, v16, v100)) hF (Nat.lt_succ_self n) h0
def f10_14b (r14 : Int → Int → Option (Bool)) (a1 : A2u8N) (N : Nat) (x1 : List Kind) (x2 : Int × (List (A2iN × Int))) (x4 : Layout × Int) (k0 : Int → Option (Bool)) (v13 : Int) (v93 : Int) : Option (Bool) :=
 bif decide (v93 < (List.length x4.1.Labels : Int)) then (joinK (f10_c32 a1 x1 x2 x4 v93 r14) fun k1 =>
 (ix x4.1.Labels v93).bind fun x9 =>
 joinK (f10_c23 a1 N x1 x2 x4 v13 v93 k1 x9) fun k3 =>
 f10_18 a1 x1 x2 x4 v13 v93 x9 k3 N (-1 : Int) (0 : Int))
 else (k0 v13)
def f10_14 (a1 : A2u8N) (N : Nat) (x1 : List Kind) (x2 : Int × (List (A2iN × Int))) (x4 : Layout × Int) (k0 : Int → Option (Bool)) : Nat → Int → Int → Option (Bool)
  | 0, _, _ => none
  | n + 1, v13, v93 => f10_14b (f10_14 a1 N x1 x2 x4 k0 n) a1 N x1 x2 x4 k0 v13 v93
def Sf10_14 : Ann := ⟨[5, 6, 7, 8, 11, 13, 91, 92, 93], [507], [], []⟩
def Vf10_14 (a1 : A2u8N) (x1 : List Kind) (x2 : Int × (List (A2iN × Int))) (x4 : Layout × Int) (v13 : Int) (v93 : Int) : List SV := [.dat (sl_Kind x1), .dat (iN (W ((1 : Int) + (Int.tmod a1.e0 (8 : Int))))), .dat (iN (W ((1 : Int) + (Int.tmod a1.e1 (8 : Int))))), .dat (iN x2.1), .ptr 507 0, .dat (iN v13), .dat (sl_Label x4.1.Labels), .dat (iN (List.length x4.1.Labels : Int)), .dat (iN v93)]
def Bf10_14 (a1 : A2u8N) (x1 : List Kind) (x2 : Int × (List (A2iN × Int))) (x4 : Layout × Int) (v13 : Int) (v93 : Int) : List Blk := [.box [.dat (iN x4.1.W), .dat (iN x4.1.H), .dat (sl_Label x4.1.Labels)]]
def Yf10_14 (a1 : A2u8N) (x1 : List Kind) (x2 : Int × (List (A2iN × Int))) (x4 : Layout × Int) (y : Nat × Int × Int) : List SV := Vf10_14 a1 x1 x2 x4 y.2.1 y.2.2
def Xf10_14 (a1 : A2u8N) (x1 : List Kind) (x2 : Int × (List (A2iN × Int))) (x4 : Layout × Int) (y : Nat × Int × Int) : List Blk := Bf10_14 a1 x1 x2 x4 y.2.1 y.2.2
def Jf10_14 (a1 : A2u8N) (N : Nat) (x1 : List Kind) (x2 : Int × (List (A2iN × Int))) (x4 : Layout × Int) (k0 : Int → Option (Bool)) (r : Bool) (y : Nat × Int × Int) : Prop := f10_14 a1 N x1 x2 x4 k0 y.1 y.2.1 y.2.2 = some r
theorem Lf10_14 {r : Bool} {a1 : A2u8N} {N : Nat} {x1 : List Kind} {x2 : Int × (List (A2iN × Int))} {x4 : Layout × Int} {k0 : Int → Option (Bool)} {fu : Nat} {v13 : Int} {v93 : Int} (hz : Sf10_14.ok p = true) (h0 : AtH Sf10_14 st (Vf10_14 a1 x1 x2 x4 v13 v93) (Bf10_14 a1 x1 x2 x4 v13 v93)) (h : ∀ (n : Nat) (v13 : Int) (v93 : Int), f10_14b (f10_14 a1 N x1 x2 x4 k0 n) a1 N x1 x2 x4 k0 v13 v93 = some r → vc c p nid a (St.mk' Sf10_14 (Vf10_14 a1 x1 x2 x4 v13 v93) (Bf10_14 a1 x1 x2 x4 v13 v93)) (Kloop Sf10_14 (Yf10_14 a1 x1 x2 x4) (Xf10_14 a1 x1 x2 x4) (Jf10_14 a1 N x1 x2 x4 k0 r) Prod.fst (n + 1, v13, v93) K)) (hF : f10_14 a1 N x1 x2 x4 k0 fu v13 v93 = some r) : vc c p nid (.loop a) st K := by
  refine vc_loop Sf10_14 (Yf10_14 a1 x1 x2 x4) (Xf10_14 a1 x1 x2 x4) (Jf10_14 a1 N x1 x2 x4 k0 r) Prod.fst hz (kheadL (x := (fu, v13, v93)) hF h0) ?_
  rintro ⟨_ | n, v13, v93⟩ hI
  · cases hI
  · exact h n v13 v93 hI
theorem Mf10_14 {r : Bool} {a1 : A2u8N} {N : Nat} {x1 : List Kind} {x2 : Int × (List (A2iN × Int))} {x4 : Layout × Int} {k0 : Int → Option (Bool)} {n : Nat} {v13 : Int} {v93 : Int} {v13_ : Int} {v93_ : Int} (hF : f10_14 a1 N x1 x2 x4 k0 n v13 v93 = some r) (h0 : AtH Sf10_14 st (Vf10_14 a1 x1 x2 x4 v13 v93) (Bf10_14 a1 x1 x2 x4 v13 v93)) : Kloop Sf10_14 (Yf10_14 a1 x1 x2 x4) (Xf10_14 a1 x1 x2 x4) (Jf10_14 a1 N x1 x2 x4 k0 r) Prod.fst (n + 1, v13_, v93_) K .normal st := by
  exact kback (y := (n, v13, v93)) hF (Nat.lt_succ_self n) h0
def f10 (N : Nat) (a0 : List A3u8N) (a1 : A2u8N) : Option (Bool) :=
 (f37 N a0).bind fun x1 =>
 (f38 N (W ((1 : Int) + (Int.tmod a1.e0 (8 : Int)))) (W ((1 : Int) + (Int.tmod a1.e1 (8 : Int)))) x1 []).bind fun x2 =>
 (f29 N (W ((1 : Int) + (Int.tmod a1.e0 (8 : Int)))) (W ((1 : Int) + (Int.tmod a1.e1 (8 : Int)))) x1).bind fun x3 =>
 (f31 N (W ((1 : Int) + (Int.tmod a1.e0 (8 : Int)))) (W ((1 : Int) + (Int.tmod a1.e1 (8 : Int)))) x1).bind fun x4 =>
 bif decide (¬ x3.2 = (0 : Int)) then (some (false))
 else (bif decide (¬ x3.1 = x2.1) then (some (false))
 else (bif decide (¬ x4.2 = (0 : Int)) then (bif decide (x4.2 = (16 : Int)) then (bif decide ((List.length x4.1.Labels : Int) = (0 : Int)) then ((f13 N ).bind fun x5 =>
 some (x5))
 else (some (false)))
 else (some (false)))
 else (bif decide (¬ x4.1.W = (W ((1 : Int) + (Int.tmod a1.e0 (8 : Int))))) then (some (false))
 else (bif decide (¬ x4.1.H = (W ((1 : Int) + (Int.tmod a1.e1 (8 : Int))))) then (some (false))
 else (bif decide ((10 : Int) < (List.length x4.1.Labels : Int)) then (some (false))
 else (joinK (f10_c33 N x1 x2 x4) fun k0 =>
 f10_14 a1 N x1 x2 x4 k0 N (0 : Int) (0 : Int)))))))
def G10 (ds : List D) (d : D) : Prop := ∃ (N : Nat) (a0 : List A3u8N) (a1 : A2u8N) (r : Bool), ds = [sl_A3u8N a0, A2u8N.d a1] ∧ f10 N a0 a1 = some r ∧ d = bN r
theorem G10.step {N : Nat} {a0 : List A3u8N} {a1 : A2u8N} {ρ : Type} {A : Bool → Option ρ} {q : ρ} {ds : List D} {K : D → Prop} (hd : ds = [sl_A3u8N a0, A2u8N.d a1]) (h : ∀ r, A r = some q → K (bN r)) (hF : (f10 N a0 a1).bind A = some q) : ∃ d, G10 ds d ∧ K d := by
  obtain ⟨r, hr, hA⟩ := bind_some hF
  exact ⟨_, ⟨N, a0, a1, r, hd, hr, rfl⟩, h r hA⟩
set_option maxRecDepth 20000 in
set_option maxHeartbeats 4000000 in
theorem P10 : PureOK Try.prog 10 G10 := by
  refine pure_of_vc (c := mkCtx tyTree [(38, false, effPg Spf38 G38), (37, true, purePg [[3]] G37), (35, true, purePg [[0, 0, 0, 0], [0, 0, 0, 0]] G35), (33, true, purePg [[4]] G33), (31, true, purePg [[0], [0], [3]] G31), (29, true, purePg [[0], [0], [3]] G29), (17, true, purePg [[0, 0, 4], [3]] G17), (13, true, purePg [] G13)]) rfl tyOK (ctx_eff (callable Try.func38 rfl rfl) P38 (ctx_cons (callable Try.func37 rfl rfl) P37 (ctx_cons (callable Try.func35 rfl rfl) P35 (ctx_cons (callable Try.func33 rfl rfl) P33 (ctx_cons (callable Try.func31 rfl rfl) P31 (ctx_cons (callable Try.func29 rfl rfl) P29 (ctx_cons (callable Try.func17 rfl rfl) P17 (ctx_cons (callable Try.func13 rfl rfl) P13 (ctx_nil))))))))) [[0]] 2 Try.func10 rfl rfl (by decide) (by kernel_rfl) ?_
  rintro ds d ⟨N, a0, a1, r, rfl, hF, rfl⟩ hok
  clear hok
  refine ⟨rfl, ?_⟩
  show vc _ _ _ _ ⟨[(0, .dat (sl_A3u8N a0)), (1, .dat (A2u8N.d a1))], []⟩ _
  unfold f10 at hF
  repeat' (first
    | ((with_reducible refine q0 _ _ ?_); clear Q q0 q1 q2)
    | ((with_reducible refine q1 _ _ _ _ ?_); clear Q q0 q1 q2)
    | ((with_reducible refine q2 _ _ _ ?_); clear Q q0 q1 q2)
    | ((with_reducible refine seq_op ?hx (fun Q q0 q1 q2 => ?_)); (case hx => exact rfl); conv => whnf)
    | ((with_reducible refine draw_op ?hx (fun Q q0 q1 q2 => ?_)); (case hx => exact rfl); conv => whnf)
    | ((with_reducible refine seq_op0 ?hx (fun Q q0 q1 q2 => ?_)); (case hx => exact rfl); conv => whnf)
    | ((with_reducible refine draw_op0 ?hx (fun Q q0 q1 q2 => ?_)); (case hx => exact rfl); conv => whnf)
    | ((with_reducible refine seq_off ?hx ?_); (case hx => exact rfl))
    | ((with_reducible refine seq_off0 ?hx ?_); (case hx => exact rfl))
    | ((with_reducible refine draw_off ?hx ?_); (case hx => exact rfl))
    | ((with_reducible refine draw_off0 ?hx ?_); (case hx => exact rfl))
    | ((with_reducible refine seq_id ?_); (first | ((refine seq_opK rfl ?hy (fun Q q0 q1 q2 => ?_)); (case hy => first | assumption | exact notT (by assumption) | exact rfl); conv => whnf) | ((refine seq_offK rfl ?hy ?_); (case hy => first | assumption | exact notF (by assumption) | exact rfl)) | ((refine seq_opK0 rfl ?hy (fun Q q0 q1 q2 => ?_)); (case hy => first | assumption | exact notT (by assumption) | exact rfl); conv => whnf) | ((refine seq_offK0 rfl ?hy ?_); (case hy => first | assumption | exact notF (by assumption) | exact rfl)) | (revert hF; (with_reducible refine seq_opF ?hx ?_ ?_); (case hx => exact rfl); (intro hc hF Q q0 q1 q2; conv => whnf); rotate_left; (intro hc hF); rotate_right) | (revert hF; (with_reducible refine seq_opN ?hx ?_ ?_); (case hx => exact rfl); (intro hc hF); rotate_left; (intro hc hF Q q0 q1 q2; conv => whnf); rotate_right) | (revert hF; (with_reducible refine seq_opF0 ?hx ?_ ?_); (case hx => exact rfl); (intro hc hF Q q0 q1 q2; conv => whnf); rotate_left; (intro hc hF); rotate_right) | (revert hF; (with_reducible refine seq_opN0 ?hx ?_ ?_); (case hx => exact rfl); (intro hc hF); rotate_left; (intro hc hF Q q0 q1 q2; conv => whnf); rotate_right)))
    | ((with_reducible refine cond_id ?_); (first | ((refine condKT rfl ?hy ?_); (case hy => first | assumption | exact notT (by assumption) | exact rfl)) | ((refine condKF rfl ?hy ?_); (case hy => first | assumption | exact notF (by assumption) | exact rfl)) | (revert hF; (with_reducible refine condF ?hx ?_ ?_); (case hx => exact rfl); all_goals (intro hc hF))))
    | ((with_reducible refine seq_nil ?_); (first | ((with_reducible refine hR _ ?_); clear R hR) | ((with_reducible refine hL _ ?_); clear L hL)))
    | ((with_reducible refine draw_nil ?_); (with_reducible refine hR _ _ ?hx ?_); (case hx => kernel_rfl); (first | clear R hR | clear hR))
    | ((with_reducible refine int_step ?_); conv => whnf)
    | ((with_reducible refine len_step ?_); conv => whnf)
    | ((with_reducible refine idx2 (by assumption) ?_); conv => whnf)
    | ((with_reducible refine idx3 (by assumption) ?_); conv => whnf)
    | with_reducible refine vc_block ?_
    | with_reducible refine vc_skip ?_
    | with_reducible refine vc_ret ?_
    | with_reducible refine vc_exit ?_
    | ((with_reducible refine vc_seqN [33, 32, 31, 23] ?hx ?_); (case hx => exact rfl))
    | (with_reducible refine vc_region (fun R hR => ?_))
    | ((with_reducible refine vc_draw ?hx (fun R hR => ?_)); (case hx => exact rfl))
    | fail
    | (revert hF; (refine Cf10_c33 rfl rfl ?_ ?_); (intro hF); rotate_left; (intro v13 hF; unfold f10_c33 at hF); rotate_right)
    | exact Zf10_c33 hF ⟨_, rfl, rfl, rfl, rfl⟩
    | (revert hF; (refine Cf10_c32 rfl rfl ?_ ?_); (intro hF); rotate_left; (intro v13' hF; unfold f10_c32 at hF); rotate_right)
    | exact Zf10_c32 hF ⟨_, rfl, rfl, rfl, rfl⟩
    | (revert hF; (refine Cf10_c31 rfl rfl ?_ ?_); (intro hF); rotate_left; (intro _ hF; unfold f10_c31 at hF); rotate_right)
    | exact Zf10_c31 hF ⟨_, rfl, rfl, rfl, rfl⟩
    | (revert hF; (refine Lf10_26 rfl ⟨_, rfl, rfl, rfl, rfl⟩ ?_); intro n v156 hF; unfold f10_26b at hF)
    | exact Mf10_26 hF ⟨_, rfl, rfl, rfl, rfl⟩
    | (revert hF; (refine Cf10_c23 rfl rfl ?_ ?_); (intro hF); rotate_left; (intro v16 hF; unfold f10_c23 at hF); rotate_right)
    | exact Zf10_c23 hF ⟨_, rfl, rfl, rfl, rfl⟩
    | (revert hF; (refine Lf10_18 rfl ⟨_, rfl, rfl, rfl, rfl⟩ ?_); intro n v16 v100 hF; unfold f10_18b at hF)
    | exact Mf10_18 hF ⟨_, rfl, rfl, rfl, rfl⟩
    | (revert hF; (refine Lf10_14 rfl ⟨_, rfl, rfl, rfl, rfl⟩ ?_); intro n v13 v93 hF; unfold f10_14b at hF)
    | exact Mf10_14 hF ⟨_, rfl, rfl, rfl, rfl⟩
    | (revert hF; (with_reducible refine G13.step ?hx ?_); (case hx => exact rfl); intro v hF; conv => whnf)
    | (revert hF; (with_reducible refine G17.step ?hx ?_); (case hx => exact rfl); intro v hF; conv => whnf)
    | (revert hF; (with_reducible refine G29.step ?hx ?_); (case hx => exact rfl); intro v hF; conv => whnf)
    | (revert hF; (with_reducible refine G31.step ?hx ?_); (case hx => exact rfl); intro v hF; conv => whnf)
    | (revert hF; (with_reducible refine G33.step ?hx ?_); (case hx => exact rfl); intro v hF; conv => whnf)
    | (revert hF; (with_reducible refine G35.step ?hx ?_); (case hx => exact rfl); intro v hF; conv => whnf)
    | (revert hF; (with_reducible refine G37.step ?hx ?_); (case hx => exact rfl); intro v hF; conv => whnf)
    | (revert hF; (refine G38.step rfl rfl rfl ?hn ?_); (case hn => exact rfl); intro v hF; conv => whnf)
    | with_reducible refine k_seq_ret ?_
    | with_reducible refine k_seq_exit ?_
    | with_reducible refine k_blk ?_
    | with_reducible refine k_blk_ret ?_
    | with_reducible refine k_blk_here ?_
    | ((with_reducible refine k_blk_out ?hx ?_); (case hx => exact rfl))
    | with_reducible refine k_loop_ret ?_
    | with_reducible refine k_loop_exit ?_
    | (revert hF; (with_reducible refine idx1 ?hn ?_); (case hn => first | exact rfl | exact (List.length_map _) | assumption | omega | simp); intro x hx hF; conv => whnf)
    | ((with_reducible have hG := sub_fact hF); clear hF; (first | (refine sub_step hG (fun q hF => ?_)) | (refine subrow_step hG ?hn (fun q hF => ?_); (case hn => first | exact rfl | assumption | omega))); clear hG; conv => whnf)
    | ((refine row_all ?hn ?_); (case hn => first | exact rfl | (simp; done) | (simp; omega)); conv => whnf)
    | ((with_reducible refine le_step ?hn ?_); (case hn => first | exact rfl | assumption | omega); conv => whnf)
    | ((refine ⟨?hx, ?_⟩); (case hx => exact ⟨rfl, Nat.le_of_ble_eq_true rfl, rfl⟩); conv => whnf)
    | ((with_reducible refine ex_step ?_); conv => whnf)
    | ((with_reducible refine both_T ?hx ?_); (case hx => first | exact rfl | assumption | exact notT (by assumption)); conv => whnf)
    | ((with_reducible refine both_F ?hx ?_); (case hx => first | exact rfl | assumption | exact notF (by assumption)); conv => whnf)
    | (revert hF; (with_reducible refine ite_step ?_ ?_) <;> (intro hc hF; conv => whnf))
    | ((with_reducible refine vc_condT ?hx ?_); (case hx => exact rfl))
    | ((with_reducible refine vc_condF ?hx ?_); (case hx => exact rfl))
    | (show retD _ _ _ _ _ _; conv => whnf)
    | ((refine ⟨?hx, trivial⟩); (case hx => (cases hF; exact rfl)))
    | ((refine ⟨?hx, ?_⟩); (case hx => decide); conv => whnf)
    | ((with_reducible refine k_seq ?_))
    | (have hF : (none : Option _) = some _ := hF; cases hF))
end
end Go.Vc
namespace Go.Vc
open Go.Proofs
set_option linter.unusedVariables false
set_option linter.unnecessarySimpa false
set_option linter.unusedSimpArgs false
def f72 (N : Nat) (a0 : Int) (a1 : Int) (a2 : Int) : Option (Bool) :=
 bif decide (a1 ≤ a0) then (some (decide (a0 ≤ a2)))
 else (some (false))
end Go.Vc
namespace Go.Vc
open Go.Proofs
set_option linter.unusedVariables false
set_option linter.unnecessarySimpa false
set_option linter.unusedSimpArgs false
def f56 (N : Nat) (a0 : Int) (a1 : Int) (a2 : Int) : Option (Bool) :=
 (f72 N a0 a1 a2).bind fun x1 =>
 some (x1)
end Go.Vc
namespace Go.Vc
open Go.Proofs
set_option linter.unusedVariables false
set_option linter.unnecessarySimpa false
set_option linter.unusedSimpArgs false
def f57 (N : Nat) (a0 : Label) (a1 : Label) : Option (Bool) :=
 bif decide (a0.X < (W (a1.X + a1.W))) then (bif decide (a1.X < (W (a0.X + a0.W))) then (bif decide (a0.Y < (W (a1.Y + a1.H))) then (some (decide (a1.Y < (W (a0.Y + a0.H)))))
 else (some (false)))
 else (some (false)))
 else (some (false))
end Go.Vc
namespace Go.Vc
open Go.Proofs
set_option linter.unusedVariables false
set_option linter.unnecessarySimpa false
set_option linter.unusedSimpArgs false
def f21_c21 : Option (Int) :=
 some ((0 : Int))
def f21_c15 (a0 : Layout) (v5 : Int) (r14 : Int → Option (Int)) : Option (Int) :=
 r14 (W (v5 + (1 : Int)))
def f21_17b (r17 : Int → Option (Int)) (a0 : Layout) (N : Nat) (v5 : Int) (k1 : Option (Int)) (v6 : Int) : Option (Int) :=
 bif decide (v6 < v5) then ((ix a0.Labels v5).bind fun x3 =>
 (ix a0.Labels v6).bind fun x4 =>
 (f57 N x3 x4).bind fun x5 =>
 bif x5 then (some ((12 : Int)))
 else (r17 (W (v6 + (1 : Int)))))
 else k1
def f21_17 (a0 : Layout) (N : Nat) (v5 : Int) (k1 : Option (Int)) : Nat → Int → Option (Int)
  | 0, _ => none
  | n + 1, v6 => f21_17b (f21_17 a0 N v5 k1 n) a0 N v5 k1 v6
def f21_14b (r14 : Int → Option (Int)) (a0 : Layout) (N : Nat) (k0 : Option (Int)) (v5 : Int) : Option (Int) :=
 bif decide (v5 < (List.length a0.Labels : Int)) then (joinK (f21_c15 a0 v5 r14) fun k1 =>
 f21_17 a0 N v5 k1 N (0 : Int))
 else k0
def f21_14 (a0 : Layout) (N : Nat) (k0 : Option (Int)) : Nat → Int → Option (Int)
  | 0, _ => none
  | n + 1, v5 => f21_14b (f21_14 a0 N k0 n) a0 N k0 v5
def f21_c13 (a0 : Layout) (N : Nat) : Option (Int) :=
 joinK f21_c21 fun k0 =>
 f21_14 a0 N k0 N (0 : Int)
def f21_6b (r6 : Int → Option (Int)) (a0 : Layout) (N : Nat) (k2 : Option (Int)) (v3 : Int) : Option (Int) :=
 bif decide (v3 < (List.length a0.Labels : Int)) then ((ix a0.Labels v3).bind fun x6 =>
 bif decide (x6.W < (1 : Int)) then (some ((3 : Int)))
 else (bif decide (x6.H < (1 : Int)) then (some ((3 : Int)))
 else ((f56 N x6.X (0 : Int) a0.W).bind fun x7 =>
 bif !x7 then (some ((16 : Int)))
 else ((f56 N x6.Y (0 : Int) a0.H).bind fun x8 =>
 bif !x8 then (some ((16 : Int)))
 else (bif decide ((W (a0.W - x6.X)) < x6.W) then (some ((16 : Int)))
 else (bif decide ((W (a0.H - x6.Y)) < x6.H) then (some ((16 : Int)))
 else (r6 (W (v3 + (1 : Int))))))))))
 else k2
def f21_6 (a0 : Layout) (N : Nat) (k2 : Option (Int)) : Nat → Int → Option (Int)
  | 0, _ => none
  | n + 1, v3 => f21_6b (f21_6 a0 N k2 n) a0 N k2 v3
def f21 (N : Nat) (a0 : Layout) : Option (Int) :=
 (f56 N a0.W (1 : Int) (12 : Int)).bind fun x1 =>
 bif !x1 then (some ((3 : Int)))
 else ((f56 N a0.H (1 : Int) (12 : Int)).bind fun x2 =>
 bif !x2 then (some ((3 : Int)))
 else (bif decide ((10 : Int) < (List.length a0.Labels : Int)) then (some ((2 : Int)))
 else (joinK (f21_c13 a0 N) fun k2 =>
 f21_6 a0 N k2 N (0 : Int))))
end Go.Vc
namespace Go.Vc
open Go.Proofs
set_option linter.unusedVariables false
set_option linter.unnecessarySimpa false
set_option linter.unusedSimpArgs false
def f14_c6 (a0 : Layout) (b105_2 : List Label) : Option (Layout) :=
 some ((Layout.mk a0.W a0.H b105_2))
def f14_3b (r3 : Int → (List Label) → Option (Layout)) (a0 : Layout) (k0 : (List Label) → Option (Layout)) (i4 : Int) (b105_2 : List Label) : Option (Layout) :=
 bif decide (i4 < (List.length a0.Labels : Int)) then ((ix a0.Labels i4).bind fun x1 =>
 (app 32 b105_2 [x1]).bind fun x2 =>
 r3 (W (i4 + (1 : Int))) x2)
 else (k0 b105_2)
def f14_3 (a0 : Layout) (k0 : (List Label) → Option (Layout)) : Nat → Int → (List Label) → Option (Layout)
  | 0, _, _ => none
  | n + 1, i4, b105_2 => f14_3b (f14_3 a0 k0 n) a0 k0 i4 b105_2
def f14 (N : Nat) (a0 : Layout) : Option (Layout) :=
 joinK (f14_c6 a0) fun k0 =>
 f14_3 a0 k0 N (0 : Int) []
end Go.Vc
namespace Go.Vc
open Go.Proofs
set_option linter.unusedVariables false
set_option linter.unnecessarySimpa false
set_option linter.unusedSimpArgs false
def f19_c6 (out3 : List Kind) : Option ((List Kind)) :=
 some (out3)
def f19_3b (r3 : (List Kind) → Int → Option ((List Kind))) (a0 : List Kind) (k0 : (List Kind) → Option ((List Kind))) (out3 : List Kind) (i4 : Int) : Option ((List Kind)) :=
 bif decide (i4 < (List.length a0 : Int)) then ((ix a0 i4).bind fun x1 =>
 (app 24 out3 [x1]).bind fun x2 =>
 r3 x2 (W (i4 + (1 : Int))))
 else (k0 out3)
def f19_3 (a0 : List Kind) (k0 : (List Kind) → Option ((List Kind))) : Nat → (List Kind) → Int → Option ((List Kind))
  | 0, _, _ => none
  | n + 1, out3, i4 => f19_3b (f19_3 a0 k0 n) a0 k0 out3 i4
def f19 (N : Nat) (a0 : List Kind) : Option ((List Kind)) :=
 joinK f19_c6 fun k0 =>
 f19_3 a0 k0 N [] (0 : Int)
end Go.Vc
/-
  PLAIN LAWS OF CUT, 1: copies, checks.
-/
namespace Go.Vc
set_option linter.unusedVariables false
set_option linter.unnecessarySimpa false
set_option linter.unusedSimpArgs false
set_option linter.unusedSimpArgs false

theorem f52_eq {N : Nat} {a b c : Int} : f52 N a b c = some (decide (a ≤ b) && decide (b ≤ c)) := by
  unfold f52; cases decide (a ≤ b) <;> rfl
theorem f72_eq {N : Nat} {a b c : Int} : f72 N a b c = some (decide (b ≤ a) && decide (a ≤ c)) := by
  unfold f72; cases decide (b ≤ a) <;> rfl
theorem f56_eq {N : Nat} {a b c : Int} : f56 N a b c = some (decide (b ≤ a) && decide (a ≤ c)) := by
  unfold f56; rw [f72_eq]; rfl
/-- copies -/
theorem foldK_copy {α ρ : Type} {s : Nat} {k : List α → Option ρ} : ∀ (l o : List α) (i : Nat), (o.length + l.length) * s ≤ 140737488355328 → o.length + l.length ≤ 1000000 →
    foldK (fun _ x (o : List α) c => (app s o [x]).bind c) k i l o = k (o ++ l)
  | [], o, i, _, _ => by simp [foldK]
  | x :: r, o, i, h, h' => by
    simp only [foldK]
    simp only [List.length_cons] at h h'
    have h1 : (o.length + 1) * s ≤ (o.length + (r.length + 1)) * s := Nat.mul_le_mul_right s (by omega)
    rw [app_ok (by simpa using Nat.le_trans h1 h) (by simp; omega)]
    simp only [Option.bind_some]
    rw [foldK_copy r (o ++ [x]) (i + 1) (by simpa [Nat.add_assoc, Nat.add_comm 1] using h) (by simp; omega)]
    simp
theorem f14_eq {N : Nat} {a : Layout} (h : a.Labels.length ≤ 30) (hN : 30 < N) : f14 N a = some a := by
  show f14_3 a (f14_c6 a) N (0 : Int) [] = _
  have := loopL (l := a.Labels) (F := fun n s i => f14_3 a (f14_c6 a) n i s) (g := fun _ x (o : List Label) c => (app 32 o [x]).bind c) (k := f14_c6 a)
    (fun n s i x hx => by
      have hi := (List.getElem?_eq_some_iff.1 hx).1
      simp only [f14_3, f14_3b, ix_nat, hx, Option.bind_some, decide_eq_true (show (i : Int) < (a.Labels.length : Int) by omega), cond_true, W_nat (show i < 9223372036854775807 by omega)])
    (fun n s => by simp [f14_3, f14_3b]) N [] (by omega)
  refine this.trans ?_
  rw [foldK_copy _ _ _ (by simp; omega) (by simp; omega)]
  simp [f14_c6]
theorem f19_eq {N : Nat} {a : List Kind} (h : a.length ≤ 30) (hN : 30 < N) : f19 N a = some a := by
  show f19_3 a f19_c6 N [] (0 : Int) = _
  have := loopL (l := a) (F := fun n s i => f19_3 a f19_c6 n s i) (g := fun _ x (o : List Kind) c => (app 24 o [x]).bind c) (k := f19_c6)
    (fun n s i x hx => by
      have hi := (List.getElem?_eq_some_iff.1 hx).1
      simp only [f19_3, f19_3b, ix_nat, hx, Option.bind_some, decide_eq_true (show (i : Int) < (a.length : Int) by omega), cond_true, W_nat (show i < 9223372036854775807 by omega)])
    (fun n s => by simp [f19_3, f19_3b]) N [] (by omega)
  refine this.trans ?_
  rw [foldK_copy _ _ _ (by simp; omega) (by simp; omega)]
  simp [f19_c6]

/-! Checks. -/
def okLabel (L : Layout) (x : Label) : Option Int :=
  if x.W < 1 then some 3 else if x.H < 1 then some 3 else if ¬ (0 ≤ x.X ∧ x.X ≤ L.W) then some 16 else if ¬ (0 ≤ x.Y ∧ x.Y ≤ L.H) then some 16
  else if W (L.W - x.X) < x.W then some 16 else if W (L.H - x.Y) < x.H then some 16 else none
def meets2 (a b : Label) : Bool := decide (a.X < W (b.X + b.W)) && (decide (b.X < W (a.X + a.W)) && (decide (a.Y < W (b.Y + b.H)) && decide (b.Y < W (a.Y + a.H))))
/-- a label meets an earlier one -/
def clashes : List Label → List Label → Bool
  | _, [] => false
  | p, x :: r => p.any (meets2 x) || clashes (p ++ [x]) r
def checkS (L : Layout) : Int :=
  if ¬ (1 ≤ L.W ∧ L.W ≤ 12) then 3 else if ¬ (1 ≤ L.H ∧ L.H ≤ 12) then 3 else if 10 < (L.Labels.length : Int) then 2
  else (L.Labels.findSome? (okLabel L)).getD (bif clashes [] L.Labels then 12 else 0)

def orE {ρ : Type} : Option ρ → Option ρ → Option ρ
  | some e, _ => some e
  | none, k => k
/-- the first loop of both -/
theorem foldK_find {α ρ : Type} {f : α → Option ρ} {k : Option ρ} : ∀ (l : List α) (i : Nat), foldK (fun _ x (_ : Unit) c => orE (f x) (c ())) (fun _ => k) i l () = orE (l.findSome? f) k
  | [], i => rfl
  | x :: r, i => by
    simp only [foldK, List.findSome?_cons]
    cases f x with
    | some e => rfl
    | none => exact foldK_find r (i + 1)
theorem any_fold {α : Type} {f : α → Bool} {e : Int} {k : Option Int} : ∀ (l : List α) (i : Nat), foldK (fun _ x (_ : Unit) c => bif f x then some e else c ()) (fun _ => k) i l () = bif l.any f then some e else k
  | [], i => rfl
  | x :: r, i => by
    simp only [foldK, List.any_cons]
    cases f x with
    | true => rfl
    | false => simpa using any_fold r (i + 1)
theorem clash_fold {k : Option Int} : ∀ (l p : List Label), foldK (fun i x (_ : Unit) c => bif ((p ++ l).take i).any (meets2 x) then some (12 : Int) else c ()) (fun _ => k) p.length l () = bif clashes p l then some 12 else k
  | [], p => rfl
  | x :: r, p => by
    simp only [foldK, clashes, List.take_left']
    cases h : p.any (meets2 x) with
    | true => rfl
    | false =>
      have := clash_fold (k := k) r (p ++ [x])
      simp only [List.append_assoc, List.singleton_append, List.length_append, List.length_singleton] at this
      simpa using this
theorem f20_eq {N : Nat} {a : Layout} (h : a.Labels.length ≤ 30) (hN : 30 < N) : f20 N a = some (checkS a) := by
  have h17 : ∀ (i : Nat) (k1 : Option Int) (x3 : Label) (x4 : List Label), x4.length ≤ 30 → f20_17 a N (i : Int) k1 x3 x4 N (0 : Int) = bif x4.any (meets2 x3) then some 12 else k1 := by
    intro i k1 x3 x4 hx4
    have := loopL (l := x4) (F := fun n (_ : Unit) j => f20_17 a N (i : Int) k1 x3 x4 n j) (g := fun _ x (_ : Unit) c => bif meets2 x3 x then some (12 : Int) else c ()) (k := fun _ => k1)
      (fun n s j x hx => by
        have hi := (List.getElem?_eq_some_iff.1 hx).1
        simp only [f20_17, f20_17b, ix_nat, hx, Option.bind_some, decide_eq_true (show (j : Int) < (x4.length : Int) by omega), cond_true, W_nat (show j < 9223372036854775807 by omega), f53, f55, meets2]
        cases decide (x3.X < W (x.X + x.W)) <;> cases decide (x.X < W (x3.X + x3.W)) <;> cases decide (x3.Y < W (x.Y + x.H)) <;> cases decide (x.Y < W (x3.Y + x3.H)) <;> rfl)
      (fun n s => by simp [f20_17, f20_17b]) N () (by omega)
    exact this.trans (any_fold _ _)
  have h14 : f20_c13 a N = bif clashes [] a.Labels then some 12 else some 0 := by
    show f20_14 a N f20_c23 N (0 : Int) = _
    have := loopL (l := a.Labels) (F := fun n (_ : Unit) j => f20_14 a N f20_c23 n j) (g := fun i x (_ : Unit) c => bif (a.Labels.take i).any (meets2 x) then some (12 : Int) else c ()) (k := fun _ => f20_c23)
      (fun n s j x hx => by
        have hi := (List.getElem?_eq_some_iff.1 hx).1
        simp only [f20_14, f20_14b, joinK, ix_nat, hx, Option.bind_some, decide_eq_true (show (j : Int) < (a.Labels.length : Int) by omega), cond_true]
        rw [show sub a.Labels 0 (j : Int) = some (a.Labels.take j) from (sub_nat (a := 0) (by omega) (by omega)).trans (by simp)]
        simp only [Option.bind_some]
        rw [h17 j _ x _ (by simp; omega), f20_c22, W_nat (show j < 9223372036854775807 by omega)])
      (fun n s => by simp [f20_14, f20_14b]) N () (by omega)
    refine this.trans ?_
    exact clash_fold (k := f20_c23) a.Labels []
  have h6 : f20_6 a N (f20_c13 a N) N (0 : Int) = orE (a.Labels.findSome? (okLabel a)) (f20_c13 a N) := by
    have := loopL (l := a.Labels) (F := fun n (_ : Unit) j => f20_6 a N (f20_c13 a N) n j) (g := fun i x (_ : Unit) c => orE (okLabel a x) (c ())) (k := fun _ => f20_c13 a N)
      (fun n s j x hx => by
        have hi := (List.getElem?_eq_some_iff.1 hx).1
        simp only [orE, f20_6, f20_6b, ix_nat, hx, Option.bind_some, decide_eq_true (show (j : Int) < (a.Labels.length : Int) by omega), cond_true, W_nat (show j < 9223372036854775807 by omega), f52_eq, okLabel]
        by_cases c1 : x.W < 1
        · simp [c1, orE]
        by_cases c2 : x.H < 1
        · simp [c1, c2]
        by_cases c3 : 0 ≤ x.X ∧ x.X ≤ a.W
        · by_cases c4 : 0 ≤ x.Y ∧ x.Y ≤ a.H
          · by_cases c5 : W (a.W - x.X) < x.W
            · simp [c1, c2, c3, c4, c5]
            · by_cases c6 : W (a.H - x.Y) < x.H <;> simp [c1, c2, c3, c4, c5, c6]
          · have : (decide (0 ≤ x.Y) && decide (x.Y ≤ a.H)) = false := by simpa using c4
            simp [c1, c2, c3, c4, this]
        · have : (decide (0 ≤ x.X) && decide (x.X ≤ a.W)) = false := by simpa using c3
          simp [c1, c2, c3, this])
      (fun n s => by simp [f20_6, f20_6b]) N () (by omega)
    exact this.trans (foldK_find _ _)
  rw [h14] at h6
  unfold f20 checkS
  simp only [f52_eq, Option.bind_some, joinK, h14, h6]
  by_cases c1 : 1 ≤ a.W ∧ a.W ≤ 12
  · by_cases c2 : 1 ≤ a.H ∧ a.H ≤ 12
    · by_cases c3 : 10 < (a.Labels.length : Int)
      · simp [c1, c2, c3]
      · simp only [c1, c2, c3, decide_true, Bool.and_self, Bool.not_true, cond_false, decide_false, not_true_eq_false, if_false, and_self]
        cases a.Labels.findSome? (okLabel a) with
        | some e => rfl
        | none => cases clashes [] a.Labels <;> rfl
    · have : (decide (1 ≤ a.H) && decide (a.H ≤ 12)) = false := by simpa using c2
      simp [c1, c2, this]
  · have : (decide (1 ≤ a.W) && decide (a.W ≤ 12)) = false := by simpa using c1
    simp [c1, this]
theorem f57_eq {N : Nat} {x y : Label} : f57 N x y = some (meets2 x y) := by
  unfold f57 meets2
  cases decide (x.X < W (y.X + y.W)) <;> cases decide (y.X < W (x.X + x.W)) <;> cases decide (x.Y < W (y.Y + y.H)) <;> cases decide (y.Y < W (x.Y + x.H)) <;> rfl
theorem f21_eq {N : Nat} {a : Layout} (h : a.Labels.length ≤ 30) (hN : 30 < N) : f21 N a = some (checkS a) := by
  have h17 : ∀ (i : Nat) (k1 : Option Int) (x3 : Label), a.Labels[i]? = some x3 → f21_17 a N (i : Int) k1 N (0 : Int) = bif (a.Labels.take i).any (meets2 x3) then some 12 else k1 := by
    intro i k1 x3 hx3
    have hi3 := (List.getElem?_eq_some_iff.1 hx3).1
    have := loopL (l := a.Labels.take i) (F := fun n (_ : Unit) j => f21_17 a N (i : Int) k1 n j) (g := fun _ x (_ : Unit) c => bif meets2 x3 x then some (12 : Int) else c ()) (k := fun _ => k1)
      (fun n s j x hx => by
        have hi := (List.getElem?_eq_some_iff.1 hx).1
        have hj : j < i := by simp at hi; omega
        have hx' : a.Labels[j]? = some x := by rw [List.getElem?_take] at hx; simpa [hj] using hx
        simp only [f21_17, f21_17b, ix_nat, hx', hx3, Option.bind_some, decide_eq_true (show (j : Int) < (i : Int) by omega), cond_true, W_nat (show j < 9223372036854775807 by omega), f57_eq])
      (fun n s => by
        have : (a.Labels.take i).length = i := by simp; omega
        rw [this]; simp [f21_17, f21_17b]) N () (by simp; omega)
    exact this.trans (any_fold _ _)
  have h14 : f21_c13 a N = bif clashes [] a.Labels then some 12 else some 0 := by
    show f21_14 a N f21_c21 N (0 : Int) = _
    have := loopL (l := a.Labels) (F := fun n (_ : Unit) j => f21_14 a N f21_c21 n j) (g := fun i x (_ : Unit) c => bif (a.Labels.take i).any (meets2 x) then some (12 : Int) else c ()) (k := fun _ => f21_c21)
      (fun n s j x hx => by
        have hi := (List.getElem?_eq_some_iff.1 hx).1
        simp only [f21_14, f21_14b, joinK, decide_eq_true (show (j : Int) < (a.Labels.length : Int) by omega), cond_true]
        rw [h17 j _ x hx, f21_c15, W_nat (show j < 9223372036854775807 by omega)])
      (fun n s => by simp [f21_14, f21_14b]) N () (by omega)
    refine this.trans ?_
    exact clash_fold (k := f21_c21) a.Labels []
  have h6 : f21_6 a N (f21_c13 a N) N (0 : Int) = orE (a.Labels.findSome? (okLabel a)) (f21_c13 a N) := by
    have := loopL (l := a.Labels) (F := fun n (_ : Unit) j => f21_6 a N (f21_c13 a N) n j) (g := fun i x (_ : Unit) c => orE (okLabel a x) (c ())) (k := fun _ => f21_c13 a N)
      (fun n s j x hx => by
        have hi := (List.getElem?_eq_some_iff.1 hx).1
        simp only [orE, f21_6, f21_6b, ix_nat, hx, Option.bind_some, decide_eq_true (show (j : Int) < (a.Labels.length : Int) by omega), cond_true, W_nat (show j < 9223372036854775807 by omega), f56_eq, okLabel]
        by_cases c1 : x.W < 1
        · simp [c1, orE]
        by_cases c2 : x.H < 1
        · simp [c1, c2]
        by_cases c3 : 0 ≤ x.X ∧ x.X ≤ a.W
        · by_cases c4 : 0 ≤ x.Y ∧ x.Y ≤ a.H
          · by_cases c5 : W (a.W - x.X) < x.W
            · simp [c1, c2, c3, c4, c5]
            · by_cases c6 : W (a.H - x.Y) < x.H <;> simp [c1, c2, c3, c4, c5, c6]
          · have : (decide (0 ≤ x.Y) && decide (x.Y ≤ a.H)) = false := by simpa using c4
            simp [c1, c2, c3, c4, this]
        · have : (decide (0 ≤ x.X) && decide (x.X ≤ a.W)) = false := by simpa using c3
          simp [c1, c2, c3, this])
      (fun n s => by simp [f21_6, f21_6b]) N () (by omega)
    exact this.trans (foldK_find _ _)
  rw [h14] at h6
  unfold f21 checkS
  simp only [f56_eq, Option.bind_some, joinK, h14, h6]
  by_cases c1 : 1 ≤ a.W ∧ a.W ≤ 12
  · by_cases c2 : 1 ≤ a.H ∧ a.H ≤ 12
    · by_cases c3 : 10 < (a.Labels.length : Int)
      · simp [c1, c2, c3]
      · simp only [c1, c2, c3, decide_true, Bool.and_self, Bool.not_true, cond_false, decide_false, not_true_eq_false, if_false, and_self]
        cases a.Labels.findSome? (okLabel a) with
        | some e => rfl
        | none => cases clashes [] a.Labels <;> rfl
    · have : (decide (1 ≤ a.H) && decide (a.H ≤ 12)) = false := by simpa using c2
      simp [c1, c2, this]
  · have : (decide (1 ≤ a.W) && decide (a.W ≤ 12)) = false := by simpa using c1
    simp [c1, this]
end Go.Vc
namespace Go.Vc
open Go.Proofs
set_option linter.unusedVariables false
set_option linter.unnecessarySimpa false
set_option linter.unusedSimpArgs false
def f50_c11 : Option (Int) :=
 some ((0 : Int))
def f50_6b (r6 : Int → Option (Int)) (a0 : List Kind) (N : Nat) (k0 : Option (Int)) (i3 : Int) : Option (Int) :=
 bif decide (i3 < (List.length a0 : Int)) then ((ix a0 i3).bind fun x1 =>
 (f56 N x1.W (1 : Int) (12 : Int)).bind fun x2 =>
 bif !x2 then (some ((3 : Int)))
 else ((f56 N x1.H (1 : Int) (12 : Int)).bind fun x3 =>
 bif !x3 then (some ((3 : Int)))
 else ((f56 N x1.Value (0 : Int) (1000 : Int)).bind fun x4 =>
 bif !x4 then (some ((3 : Int)))
 else (r6 (W (i3 + (1 : Int)))))))
 else k0
def f50_6 (a0 : List Kind) (N : Nat) (k0 : Option (Int)) : Nat → Int → Option (Int)
  | 0, _ => none
  | n + 1, i3 => f50_6b (f50_6 a0 N k0 n) a0 N k0 i3
def f50 (N : Nat) (a0 : List Kind) : Option (Int) :=
 bif decide ((List.length a0 : Int) = (0 : Int)) then (some ((1 : Int)))
 else (bif decide ((6 : Int) < (List.length a0 : Int)) then (some ((2 : Int)))
 else (joinK f50_c11 fun k0 =>
 f50_6 a0 N k0 N (0 : Int)))
end Go.Vc
namespace Go.Vc
open Go.Proofs
set_option linter.unusedVariables false
set_option linter.unnecessarySimpa false
set_option linter.unusedSimpArgs false
def f51_c7 (out7 : Int) : Option (Int) :=
 some (out7)
def f51_3b (r3 : Int → Int → Option (Int)) (a0 : Int) (a1 : Int) (a2 : List Kind) (k0 : Int → Option (Int)) (out7 : Int) (i8 : Int) : Option (Int) :=
 bif decide (i8 < (List.length a2 : Int)) then ((ix a2 i8).bind fun x1 =>
 bif decide (x1.W = a0) then ((ix a2 i8).bind fun x2 =>
 bif decide (x2.H = a1) then ((ix a2 i8).bind fun x3 =>
 r3 (max out7 x3.Value) (W (i8 + (1 : Int))))
 else (r3 out7 (W (i8 + (1 : Int)))))
 else (r3 out7 (W (i8 + (1 : Int)))))
 else (k0 out7)
def f51_3 (a0 : Int) (a1 : Int) (a2 : List Kind) (k0 : Int → Option (Int)) : Nat → Int → Int → Option (Int)
  | 0, _, _ => none
  | n + 1, out7, i8 => f51_3b (f51_3 a0 a1 a2 k0 n) a0 a1 a2 k0 out7 i8
def f51 (N : Nat) (a0 : Int) (a1 : Int) (a2 : List Kind) : Option (Int) :=
 joinK f51_c7 fun k0 =>
 f51_3 a0 a1 a2 k0 N (-1 : Int) (0 : Int)
end Go.Vc
namespace Go.Vc
open Go.Proofs
set_option linter.unusedVariables false
set_option linter.unnecessarySimpa false
set_option linter.unusedSimpArgs false
def f18_c14 (sum7 : Int) : Option (Int × Int) :=
 some (sum7, (0 : Int))
def f18_8b (r8 : Int → Int → Option (Int × Int)) (a0 : Layout) (a1 : List Kind) (N : Nat) (k0 : Int → Option (Int × Int)) (sum7 : Int) (i8 : Int) : Option (Int × Int) :=
 bif decide (i8 < (List.length a0.Labels : Int)) then ((ix a0.Labels i8).bind fun x2 =>
 (ix a0.Labels i8).bind fun x3 =>
 (f51 N x2.W x3.H a1).bind fun x4 =>
 bif decide (x4 < (0 : Int)) then (some ((0 : Int), (13 : Int)))
 else (r8 (W (sum7 + x4)) (W (i8 + (1 : Int)))))
 else (k0 sum7)
def f18_8 (a0 : Layout) (a1 : List Kind) (N : Nat) (k0 : Int → Option (Int × Int)) : Nat → Int → Int → Option (Int × Int)
  | 0, _, _ => none
  | n + 1, sum7, i8 => f18_8b (f18_8 a0 a1 N k0 n) a0 a1 N k0 sum7 i8
def f18_c4 (a0 : Layout) (a1 : List Kind) (N : Nat) (e6 : Int) : Option (Int × Int) :=
 bif decide (¬ e6 = (0 : Int)) then (some ((0 : Int), e6))
 else (joinK f18_c14 fun k0 =>
 f18_8 a0 a1 N k0 N (0 : Int) (0 : Int))
def f18 (N : Nat) (a0 : Layout) (a1 : List Kind) : Option (Int × Int) :=
 (f21 N a0).bind fun x1 =>
 joinK (f18_c4 a0 a1 N) fun k1 =>
 bif decide (x1 = (0 : Int)) then ((f50 N a1).bind fun x5 =>
 k1 x5)
 else (k1 x1)
end Go.Vc
/-
  PLAIN LAWS OF CUT, 2: kinds, worths.
-/
namespace Go.Vc
set_option linter.unusedVariables false
set_option linter.unnecessarySimpa false
set_option linter.unusedSimpArgs false
set_option linter.unusedSimpArgs false

def okKind (k : Kind) : Bool := (decide (1 ≤ k.W) && decide (k.W ≤ 12)) && (decide (1 ≤ k.H) && decide (k.H ≤ 12)) && (decide (0 ≤ k.Value) && decide (k.Value ≤ 1000))
def kindsS (l : List Kind) : Int := if (l.length : Int) = 0 then 1 else if 6 < (l.length : Int) then 2 else bif l.any (fun k => !okKind k) then 3 else 0
theorem f71_eq {N : Nat} {k : Kind} : f71 N k = some (!okKind k) := by
  unfold f71 okKind
  simp only [f52_eq, Option.bind_some]
  cases (decide (1 ≤ k.W) && decide (k.W ≤ 12)) <;> cases (decide (1 ≤ k.H) && decide (k.H ≤ 12)) <;> cases (decide (0 ≤ k.Value) && decide (k.Value ≤ 1000)) <;> rfl
theorem f48_eq {N : Nat} {l : List Kind} (h : l.length ≤ 30) (hN : 30 < N) : f48 N l = some (kindsS l) := by
  have h2 : f48_i501_i502000102_2 l N f48_i501_i502000102_c7 N (0 : Int) = bif l.any (fun k => !okKind k) then some 3 else some 0 := by
    have := loopL (l := l) (F := fun n (_ : Unit) j => f48_i501_i502000102_2 l N f48_i501_i502000102_c7 n j) (g := fun i x (_ : Unit) c => bif (!okKind x) then some (3 : Int) else c ()) (k := fun _ => f48_i501_i502000102_c7)
      (fun n s j x hx => by
        have hi := (List.getElem?_eq_some_iff.1 hx).1
        simp only [f48_i501_i502000102_2, f48_i501_i502000102_2b, ix_nat, hx, Option.bind_some, decide_eq_true (show (j : Int) < (l.length : Int) by omega), cond_true, W_nat (show j < 9223372036854775807 by omega), f71_eq, decide_eq_true (show (0 : Int) ≤ (j : Int) by omega)])
      (fun n s => by simp [f48_i501_i502000102_2, f48_i501_i502000102_2b]) N () (by omega)
    exact this.trans (any_fold _ _)
  unfold f48 kindsS
  simp only [joinK, h2]
  by_cases c1 : (l.length : Int) = 0
  · simp [c1]
  · by_cases c2 : 6 < (l.length : Int)
    · rw [if_neg c1, if_pos c2, decide_eq_false c1, decide_eq_true c2]; rfl
    · simp only [c1, c2, decide_false, cond_false, if_false]
      cases l.any (fun k => !okKind k) <;> rfl
theorem f50_eq {N : Nat} {l : List Kind} (h : l.length ≤ 30) (hN : 30 < N) : f50 N l = some (kindsS l) := by
  have h2 : f50_6 l N f50_c11 N (0 : Int) = bif l.any (fun k => !okKind k) then some 3 else some 0 := by
    have := loopL (l := l) (F := fun n (_ : Unit) j => f50_6 l N f50_c11 n j) (g := fun i x (_ : Unit) c => bif (!okKind x) then some (3 : Int) else c ()) (k := fun _ => f50_c11)
      (fun n s j x hx => by
        have hi := (List.getElem?_eq_some_iff.1 hx).1
        simp only [f50_6, f50_6b, ix_nat, hx, Option.bind_some, decide_eq_true (show (j : Int) < (l.length : Int) by omega), cond_true, W_nat (show j < 9223372036854775807 by omega), f56_eq, okKind]
        cases (decide (1 ≤ x.W) && decide (x.W ≤ 12)) <;> cases (decide (1 ≤ x.H) && decide (x.H ≤ 12)) <;> cases (decide (0 ≤ x.Value) && decide (x.Value ≤ 1000)) <;> rfl)
      (fun n s => by simp [f50_6, f50_6b]) N () (by omega)
    exact this.trans (any_fold _ _)
  unfold f50 kindsS
  simp only [joinK, h2]
  by_cases c1 : (l.length : Int) = 0
  · simp [c1]
  · by_cases c2 : 6 < (l.length : Int)
    · rw [if_neg c1, if_pos c2, decide_eq_false c1, decide_eq_true c2]; rfl
    · simp only [c1, c2, decide_false, cond_false, if_false]
      cases l.any (fun k => !okKind k) <;> rfl
/-- the greatest Value of a kind of a size, from a start on -/
def bestV (w h : Int) : List Kind → Int → Int
  | [], o => o
  | k :: r, o => if k.W = w ∧ k.H = h then bestV w h r (max o k.Value) else bestV w h r o
def hasV (w h : Int) (l : List Kind) : Bool := l.any fun k => decide (k.W = w) && decide (k.H = h)
theorem f49_fold {k : Int → Bool → Option (Int × Bool)} {w h : Int} : ∀ (l : List Kind) (i : Nat) (o : Int) (b : Bool),
    foldK (fun _ (x : Kind) (s : Int × Bool) c => if x.W = w ∧ x.H = h then c (max s.1 x.Value, true) else c s) (fun s => k s.1 s.2) i l (o, b) = k (bestV w h l o) (b || hasV w h l)
  | [], i, o, b => by simp [foldK, bestV, hasV]
  | x :: r, i, o, b => by
    simp only [foldK, bestV, hasV, List.any_cons]
    by_cases c : x.W = w ∧ x.H = h
    · simp only [c, and_self, if_true]
      rw [f49_fold r (i + 1)]
      simp [c]
    · simp only [c, if_false]
      rw [f49_fold r (i + 1)]
      have : (decide (x.W = w) && decide (x.H = h)) = false := by simpa using c
      rw [this, Bool.false_or]; rfl
theorem f49_eq {N : Nat} {w h : Int} {l : List Kind} (hl : l.length ≤ 30) (hN : 30 < N) : f49 N w h l = some (bestV w h l 0, hasV w h l) := by
  show f49_3 w h l f49_c8 N (0 : Int) false (0 : Int) = _
  have := loopL (l := l) (F := fun n (s : Int × Bool) j => f49_3 w h l f49_c8 n s.1 s.2 j) (g := fun _ (x : Kind) (s : Int × Bool) c => if x.W = w ∧ x.H = h then c (max s.1 x.Value, true) else c s) (k := fun s => f49_c8 s.1 s.2)
    (fun n s j x hx => by
      have hi := (List.getElem?_eq_some_iff.1 hx).1
      simp only [f49_3, f49_3b, ix_nat, hx, Option.bind_some, decide_eq_true (show (j : Int) < (l.length : Int) by omega), cond_true, W_nat (show j < 9223372036854775807 by omega)]
      by_cases c1 : x.W = w <;> by_cases c2 : x.H = h <;> simp [c1, c2])
    (fun n s => by simp [f49_3, f49_3b]) N (0, false) (by omega)
  refine this.trans ?_
  rw [f49_fold]
  simp [f49_c8]
theorem f51_fold {k : Int → Option Int} {w h : Int} : ∀ (l : List Kind) (i : Nat) (o : Int),
    foldK (fun _ (x : Kind) (s : Int) c => if x.W = w ∧ x.H = h then c (max s x.Value) else c s) k i l o = k (bestV w h l o)
  | [], i, o => by simp [foldK, bestV]
  | x :: r, i, o => by
    simp only [foldK, bestV]
    by_cases c : x.W = w ∧ x.H = h
    · simp only [c, and_self, if_true]; exact f51_fold r (i + 1) _
    · simp only [c, if_false]; exact f51_fold r (i + 1) _
theorem f51_eq {N : Nat} {w h : Int} {l : List Kind} (hl : l.length ≤ 30) (hN : 30 < N) : f51 N w h l = some (bestV w h l (-1)) := by
  show f51_3 w h l f51_c7 N (-1 : Int) (0 : Int) = _
  have := loopL (l := l) (F := fun n (s : Int) j => f51_3 w h l f51_c7 n s j) (g := fun _ (x : Kind) (s : Int) c => if x.W = w ∧ x.H = h then c (max s x.Value) else c s) (k := f51_c7)
    (fun n s j x hx => by
      have hi := (List.getElem?_eq_some_iff.1 hx).1
      simp only [f51_3, f51_3b, ix_nat, hx, Option.bind_some, decide_eq_true (show (j : Int) < (l.length : Int) by omega), cond_true, W_nat (show j < 9223372036854775807 by omega)]
      by_cases c1 : x.W = w <;> by_cases c2 : x.H = h <;> simp [c1, c2])
    (fun n s => by simp [f51_3, f51_3b]) N (-1) (by omega)
  refine this.trans ?_
  rw [f51_fold]
  simp [f51_c7]
theorem bestV_le {w h : Int} : ∀ (l : List Kind) (o : Int), o ≤ bestV w h l o
  | [], o => Int.le_refl _
  | k :: r, o => by
    simp only [bestV]
    split
    · exact Int.le_trans (Int.le_max_left _ _) (bestV_le r _)
    · exact bestV_le r o
theorem bestV_ub {w h : Int} : ∀ (l : List Kind) (o : Int), (∀ k, k ∈ l → okKind k = true) → o ≤ 1000 → bestV w h l o ≤ 1000
  | [], o, _, ho => ho
  | k :: r, o, hk, ho => by
    simp only [bestV]
    have := hk k (by simp)
    simp only [okKind, Bool.and_eq_true, decide_eq_true_eq] at this
    split
    · exact bestV_ub r _ (fun k hk' => hk k (by simp [hk'])) (by omega)
    · exact bestV_ub r _ (fun k hk' => hk k (by simp [hk'])) ho
/-- with good kinds: the two starts agree where there is a kind of the size -/
theorem bestV_neg {w h : Int} : ∀ (l : List Kind), (∀ k, k ∈ l → okKind k = true) → bestV w h l (-1) = bif hasV w h l then bestV w h l 0 else -1
  | [], _ => by simp [bestV, hasV]
  | k :: r, hk => by
    have h1 := hk k (by simp)
    simp only [okKind, Bool.and_eq_true, decide_eq_true_eq] at h1
    simp only [bestV, hasV, List.any_cons]
    by_cases c : k.W = w ∧ k.H = h
    · have e1 : max (-1) k.Value = k.Value := by omega
      have e2 : max 0 k.Value = k.Value := by omega
      simp [c, e1, e2]
    · have : (decide (k.W = w) && decide (k.H = h)) = false := by simpa using c
      rw [this, Bool.false_or, if_neg c, if_neg c]
      exact bestV_neg r fun k hk' => hk k (by simp [hk'])
/-- what labels are worth -/
def worthL (ks : List Kind) : List Label → Int → Option Int
  | [], s => some s
  | x :: r, s => bif hasV x.W x.H ks then worthL ks r (W (s + bestV x.W x.H ks 0)) else none
def worthR : Option Int → Int × Int
  | some s => (s, 0)
  | none => (0, 13)
def worthS (a : Layout) (ks : List Kind) : Int × Int :=
  if checkS a = 0 then (if kindsS ks = 0 then worthR (worthL ks a.Labels 0) else (0, kindsS ks)) else (0, checkS a)
theorem worth_fold {ks : List Kind} : ∀ (l : List Label) (i : Nat) (s : Int),
    foldK (fun _ (x : Label) (s : Int) c => bif hasV x.W x.H ks then c (W (s + bestV x.W x.H ks 0)) else some ((0 : Int), (13 : Int))) (fun s => some (s, (0 : Int))) i l s = some (worthR (worthL ks l s))
  | [], i, s => rfl
  | x :: r, i, s => by
    simp only [foldK, worthL]
    cases hasV x.W x.H ks with
    | true => exact worth_fold r (i + 1) _
    | false => rfl
theorem kindsS_ok {ks : List Kind} (h : kindsS ks = 0) : ∀ k, k ∈ ks → okKind k = true := by
  unfold kindsS at h
  split at h
  · cases h
  · split at h
    · cases h
    · cases hh : ks.any (fun k => !okKind k) with
      | true => rw [hh] at h; cases h
      | false =>
        intro k hk
        have := List.any_eq_false.1 hh k hk
        simpa using this
theorem f17_eq {N : Nat} {a : Layout} {ks : List Kind} (h : a.Labels.length ≤ 30) (hk : ks.length ≤ 30) (hN : 30 < N) : f17 N a ks = some (worthS a ks) := by
  have h8 : f17_8 a ks N f17_c15 N (0 : Int) (0 : Int) = some (worthR (worthL ks a.Labels 0)) := by
    have := loopL (l := a.Labels) (F := fun n (s : Int) j => f17_8 a ks N f17_c15 n s j) (g := fun _ (x : Label) (s : Int) c => bif hasV x.W x.H ks then c (W (s + bestV x.W x.H ks 0)) else some ((0 : Int), (13 : Int))) (k := f17_c15)
      (fun n s j x hx => by
        have hi := (List.getElem?_eq_some_iff.1 hx).1
        simp only [f17_8, f17_8b, ix_nat, hx, Option.bind_some, decide_eq_true (show (j : Int) < (a.Labels.length : Int) by omega), cond_true, W_nat (show j < 9223372036854775807 by omega), f49_eq hk hN]
        cases hasV x.W x.H ks <;> rfl)
      (fun n s => by simp [f17_8, f17_8b]) N 0 (by omega)
    exact this.trans (worth_fold _ _ _)
  unfold f17 worthS
  simp only [f20_eq h hN, f48_eq hk hN, Option.bind_some, joinK, f17_c4, h8]
  by_cases c1 : checkS a = 0
  · by_cases c2 : kindsS ks = 0 <;> simp [c1, c2]
  · simp [c1]
theorem f18_eq {N : Nat} {a : Layout} {ks : List Kind} (h : a.Labels.length ≤ 30) (hk : ks.length ≤ 30) (hN : 30 < N) : f18 N a ks = some (worthS a ks) := by
  have h8 : kindsS ks = 0 → f18_8 a ks N f18_c14 N (0 : Int) (0 : Int) = some (worthR (worthL ks a.Labels 0)) := by
    intro hok
    have hok := kindsS_ok hok
    have := loopL (l := a.Labels) (F := fun n (s : Int) j => f18_8 a ks N f18_c14 n s j) (g := fun _ (x : Label) (s : Int) c => bif hasV x.W x.H ks then c (W (s + bestV x.W x.H ks 0)) else some ((0 : Int), (13 : Int))) (k := f18_c14)
      (fun n s j x hx => by
        have hi := (List.getElem?_eq_some_iff.1 hx).1
        simp only [f18_8, f18_8b, ix_nat, hx, Option.bind_some, decide_eq_true (show (j : Int) < (a.Labels.length : Int) by omega), cond_true, W_nat (show j < 9223372036854775807 by omega), f51_eq hk hN, bestV_neg ks hok]
        cases hv : hasV x.W x.H ks with
        | false => rfl
        | true =>
          have := bestV_le (w := x.W) (h := x.H) ks 0
          simp [show ¬ bestV x.W x.H ks 0 < 0 by omega])
      (fun n s => by simp [f18_8, f18_8b]) N 0 (by omega)
    exact this.trans (worth_fold _ _ _)
  unfold f18 worthS
  simp only [f21_eq h hN, f50_eq hk hN, Option.bind_some, joinK, f18_c4]
  by_cases c1 : checkS a = 0
  · by_cases c2 : kindsS ks = 0
    · simp [c1, c2, h8 c2]
    · simp [c1, c2]
  · simp [c1]
end Go.Vc
namespace Go.Vc
open Go.Proofs
set_option linter.unusedVariables false
set_option linter.unnecessarySimpa false
set_option linter.unusedSimpArgs false
def f62_c7 (v5 : List Label) : Option ((List Label)) :=
 some (v5)
def f62_3b (r3 : (List Label) → Int → Option ((List Label))) (a0 : List Label) (a1 : Label) (k0 : (List Label) → Option ((List Label))) (v5 : List Label) (v6 : Int) : Option ((List Label)) :=
 bif decide (v6 < (List.length a0 : Int)) then ((ix a0 v6).bind fun x1 =>
 bif decide (a1.X ≤ x1.X) then ((ix a0 v6).bind fun x2 =>
 bif decide (a1.Y ≤ x2.Y) then ((ix a0 v6).bind fun x3 =>
 (ix a0 v6).bind fun x4 =>
 bif decide ((W (x3.X + x4.W)) ≤ (W (a1.X + a1.W))) then ((ix a0 v6).bind fun x5 =>
 (ix a0 v6).bind fun x6 =>
 bif decide ((W (x5.Y + x6.H)) ≤ (W (a1.Y + a1.H))) then ((ix a0 v6).bind fun x7 =>
 (app 32 v5 [x7]).bind fun x8 =>
 r3 x8 (W (v6 + (1 : Int))))
 else (r3 v5 (W (v6 + (1 : Int)))))
 else (r3 v5 (W (v6 + (1 : Int)))))
 else (r3 v5 (W (v6 + (1 : Int)))))
 else (r3 v5 (W (v6 + (1 : Int)))))
 else (k0 v5)
def f62_3 (a0 : List Label) (a1 : Label) (k0 : (List Label) → Option ((List Label))) : Nat → (List Label) → Int → Option ((List Label))
  | 0, _, _ => none
  | n + 1, v5, v6 => f62_3b (f62_3 a0 a1 k0 n) a0 a1 k0 v5 v6
def f62 (N : Nat) (a0 : List Label) (a1 : Label) : Option ((List Label)) :=
 joinK f62_c7 fun k0 =>
 f62_3 a0 a1 k0 N [] (0 : Int)
end Go.Vc
namespace Go.Vc
open Go.Proofs
set_option linter.unusedVariables false
set_option linter.unnecessarySimpa false
set_option linter.unusedSimpArgs false
def f64 (N : Nat) (a0 : Label) (a1 : Cut) : Option (Label × Label × Bool) :=
 bif a1.Up then ((f56 N a1.At (W (a0.X + (1 : Int))) (W ((W (a0.X + a0.W)) - (1 : Int)))).bind fun x1 =>
 some ((Label.mk a0.X a0.Y (W (a1.At - a0.X)) a0.H), (Label.mk a1.At a0.Y (W ((W (a0.X + a0.W)) - a1.At)) a0.H), x1))
 else ((f56 N a1.At (W (a0.Y + (1 : Int))) (W ((W (a0.Y + a0.H)) - (1 : Int)))).bind fun x2 =>
 some ((Label.mk a0.X a0.Y a0.W (W (a1.At - a0.Y))), (Label.mk a0.X a1.At a0.W (W ((W (a0.Y + a0.H)) - a1.At))), x2))
end Go.Vc
namespace Go.Vc
open Go.Proofs
set_option linter.unusedVariables false
set_option linter.unnecessarySimpa false
set_option linter.unusedSimpArgs false
def f63 (N : Nat) (a0 : List Label) (a1 : Label) (a2 : Cut) : Option (Bool) :=
 (f64 N a1 a2).bind fun x1 =>
 bif !x1.2.2 then (some (false))
 else ((f62 N a0 x1.1).bind fun x2 =>
 (f62 N a0 x1.2.1).bind fun x3 =>
 bif decide ((0 : Int) < (List.length x2 : Int)) then (bif decide ((0 : Int) < (List.length x3 : Int)) then (some (decide ((W ((List.length x2 : Int) + (List.length x3 : Int))) = (List.length a0 : Int))))
 else (some (false)))
 else (some (false)))
end Go.Vc
namespace Go.Vc
open Go.Proofs
set_option linter.unusedVariables false
set_option linter.unnecessarySimpa false
set_option linter.unusedSimpArgs false
def f46_c12 (out5' : List Cut) : Option ((List Cut)) :=
 some (out5')
def f46_8b (r8 : (List Cut) → Int → Option ((List Cut))) (a0 : List Label) (a1 : Label) (N : Nat) (k0 : (List Cut) → Option ((List Cut))) (out5' : List Cut) (at7 : Int) : Option ((List Cut)) :=
 bif decide (at7 ≤ (12 : Int)) then ((f63 N a0 a1 (Cut.mk false at7)).bind fun x1 =>
 bif x1 then ((app 16 (out5') [(Cut.mk false at7)]).bind fun x2 =>
 r8 x2 (W (at7 + (1 : Int))))
 else (r8 (out5') (W (at7 + (1 : Int)))))
 else (k0 (out5'))
def f46_8 (a0 : List Label) (a1 : Label) (N : Nat) (k0 : (List Cut) → Option ((List Cut))) : Nat → (List Cut) → Int → Option ((List Cut))
  | 0, _, _ => none
  | n + 1, out5', at7 => f46_8b (f46_8 a0 a1 N k0 n) a0 a1 N k0 out5' at7
def f46_c7 (a0 : List Label) (a1 : Label) (N : Nat) (out5 : List Cut) : Option ((List Cut)) :=
 joinK f46_c12 fun k0 =>
 f46_8 a0 a1 N k0 N out5 (0 : Int)
def f46_3b (r3 : (List Cut) → Int → Option ((List Cut))) (a0 : List Label) (a1 : Label) (N : Nat) (k1 : (List Cut) → Option ((List Cut))) (out5 : List Cut) (at6 : Int) : Option ((List Cut)) :=
 bif decide (at6 ≤ (12 : Int)) then ((f63 N a0 a1 (Cut.mk true at6)).bind fun x3 =>
 bif x3 then ((app 16 out5 [(Cut.mk true at6)]).bind fun x4 =>
 r3 x4 (W (at6 + (1 : Int))))
 else (r3 out5 (W (at6 + (1 : Int)))))
 else (k1 out5)
def f46_3 (a0 : List Label) (a1 : Label) (N : Nat) (k1 : (List Cut) → Option ((List Cut))) : Nat → (List Cut) → Int → Option ((List Cut))
  | 0, _, _ => none
  | n + 1, out5, at6 => f46_3b (f46_3 a0 a1 N k1 n) a0 a1 N k1 out5 at6
def f46 (N : Nat) (a0 : List Label) (a1 : Label) : Option ((List Cut)) :=
 joinK (f46_c7 a0 a1 N) fun k1 =>
 f46_3 a0 a1 N k1 N [] (0 : Int)
end Go.Vc
namespace Go.Vc
open Go.Proofs
set_option linter.unusedVariables false
set_option linter.unnecessarySimpa false
set_option linter.unusedSimpArgs false
def f47 (N : Nat) (a0 : Layout) : Option (Label) :=
 some ((Label.mk (0 : Int) (0 : Int) a0.W a0.H))
end Go.Vc
namespace Go.Vc
open Go.Proofs
set_option linter.unusedVariables false
set_option linter.unnecessarySimpa false
set_option linter.unusedSimpArgs false
def f16 (N : Nat) (a0 : Layout) : Option ((List Cut) × Int) :=
 (f21 N a0).bind fun x1 =>
 bif decide (¬ x1 = (0 : Int)) then (some ([], x1))
 else ((f47 N a0).bind fun x2 =>
 (f46 N a0.Labels x2).bind fun x3 =>
 some (x3, (0 : Int)))
end Go.Vc
/-
  PLAIN LAWS OF CUT, 3: cuts of pieces.
-/
namespace Go.Vc
set_option linter.unusedVariables false
set_option linter.unnecessarySimpa false
set_option linter.unusedSimpArgs false
set_option linter.unusedSimpArgs false

/-- a label with sides, in a piece -/
structure Fits (p x : Label) : Prop where
  w : 1 ≤ x.W
  h : 1 ≤ x.H
  x0 : p.X ≤ x.X
  y0 : p.Y ≤ x.Y
  x1 : x.X + x.W ≤ p.X + p.W
  y1 : x.Y + x.H ≤ p.Y + p.H
/-- a piece of a sheet -/
structure Small (p : Label) : Prop where
  x0 : 0 ≤ p.X
  y0 : 0 ≤ p.Y
  x1 : p.X + p.W ≤ 12
  y1 : p.Y + p.H ≤ 12
  w : 0 ≤ p.W
  h : 0 ≤ p.H
def lo (c : Cut) (x : Label) : Int := bif c.Up then x.X else x.Y
def hi (c : Cut) (x : Label) : Int := bif c.Up then x.X + x.W else x.Y + x.H
def before (c : Cut) (x : Label) : Bool := decide (hi c x ≤ c.At)
def behind (c : Cut) (x : Label) : Bool := decide (c.At ≤ lo c x)
def inner (c : Cut) (p : Label) : Bool := decide (lo c p + 1 ≤ c.At) && decide (c.At ≤ hi c p - 1)
def isCut (p : Label) (l : List Label) (c : Cut) : Bool := inner c p && (l.all (fun x => before c x || behind c x) && (l.any (before c) && l.any (fun x => !before c x)))
def half1 (p : Label) (c : Cut) : Label := bif c.Up then ⟨p.X, p.Y, c.At - p.X, p.H⟩ else ⟨p.X, p.Y, p.W, c.At - p.Y⟩
def half2 (p : Label) (c : Cut) : Label := bif c.Up then ⟨c.At, p.Y, p.X + p.W - c.At, p.H⟩ else ⟨p.X, c.At, p.W, p.Y + p.H - c.At⟩

theorem before_iff {c : Cut} {x : Label} : before c x = true ↔ hi c x ≤ c.At := by unfold before; exact decide_eq_true_iff
theorem behind_iff {c : Cut} {x : Label} : behind c x = true ↔ c.At ≤ lo c x := by unfold behind; exact decide_eq_true_iff
theorem before_not {c : Cut} {x : Label} : before c x = false ↔ ¬ hi c x ≤ c.At := by unfold before; exact decide_eq_false_iff_not
theorem W_in {n : Int} (h : -1000000 ≤ n) (h2 : n ≤ 1000000) : W n = n := W_of (by omega) (by omega)
theorem lt_hi {p x : Label} (h : Fits p x) (c : Cut) : lo c x < hi c x := by
  unfold lo hi; have := h.w; have := h.h; cases c.Up <;> simp only [cond_true, cond_false] <;> omega
theorem not_both {p x : Label} (h : Fits p x) {c : Cut} (hb : before c x = true) : behind c x = false := by
  have := lt_hi h c
  simp only [before, behind, decide_eq_true_eq, decide_eq_false_iff_not] at *; omega

theorem isCut_perm {p : Label} {l l' : List Label} (h : l.Perm l') (c : Cut) : isCut p l c = isCut p l' c := by
  unfold isCut
  rw [h.all_eq, h.any_eq, h.any_eq]

/-! divide -/
theorem set_swap_perm {α : Type} {l : List α} {i j : Nat} {x y : α} (hi : l[i]? = some x) (hj : l[j]? = some y) : ((l.set i y).set j x).Perm l := by
  obtain ⟨hi', rfl⟩ := List.getElem?_eq_some_iff.1 hi
  obtain ⟨hj', rfl⟩ := List.getElem?_eq_some_iff.1 hj
  have h := Array.swap_perm (xs := l.toArray) (i := i) (j := j) (by simpa using hi') (by simpa using hj')
  have h2 := Array.perm_iff_toList_perm.1 h
  simpa [Array.swap_def] using h2
structure DivInv (c : Cut) (l : List Label) (i : Nat) (s : List Label × Nat) : Prop where
  perm : s.1.Perm l
  ni : s.2 ≤ i
  il : i ≤ l.length
  rest : ∀ j, i ≤ j → s.1[j]? = l[j]?
  bef : ∀ (j : Nat) x, j < s.2 → s.1[j]? = some x → before c x = true
  aft : ∀ (j : Nat) x, s.2 ≤ j → j < i → s.1[j]? = some x → before c x = false ∧ behind c x = true
theorem DivInv.init {c : Cut} {l : List Label} : DivInv c l 0 (l, 0) := ⟨.refl _, Nat.le_refl _, Nat.zero_le _, fun _ _ => rfl, fun j x h => by omega, fun j x h h' => by omega⟩
theorem DivInv.step_aft {c : Cut} {l : List Label} {i : Nat} {s : List Label × Nat} (h : DivInv c l i s) {x : Label} (hx : l[i]? = some x) (hb : before c x = false) (hb' : behind c x = true) : DivInv c l (i + 1) s :=
  { perm := h.perm, ni := by have := h.ni; omega, il := (List.getElem?_eq_some_iff.1 hx).1, rest := fun j hj => h.rest j (by omega), bef := h.bef,
    aft := fun j y hj hj' hy => by
      by_cases he : j = i
      · subst he
        rw [h.rest j (Nat.le_refl _), hx] at hy
        cases hy; exact ⟨hb, hb'⟩
      · exact h.aft j y hj (by omega) hy }
theorem DivInv.step_bef {c : Cut} {l : List Label} {i : Nat} {s : List Label × Nat} (h : DivInv c l i s) {x y : Label} (hx : l[i]? = some x) (hy : s.1[s.2]? = some y) (hb : before c x = true) : DivInv c l (i + 1) ((s.1.set i y).set s.2 x, s.2 + 1) := by
  have hxi : s.1[i]? = some x := by rw [h.rest i (Nat.le_refl _), hx]
  have hil := (List.getElem?_eq_some_iff.1 hxi).1
  have hnl := (List.getElem?_eq_some_iff.1 hy).1
  have hni := h.ni
  refine { perm := (set_swap_perm hxi hy).trans h.perm, ni := by simp only; omega, il := (List.getElem?_eq_some_iff.1 hx).1, rest := fun j hj => ?_, bef := fun j z hj hz => ?_, aft := fun j z hj hj' hz => ?_ }
  · simp only [List.getElem?_set, List.length_set]
    rw [if_neg (by omega), if_neg (by omega)]
    exact h.rest j (by omega)
  · simp only [List.getElem?_set, List.length_set] at hz
    by_cases he : s.2 = j
    · rw [if_pos he, if_pos hnl] at hz; cases hz; exact hb
    · rw [if_neg he, if_neg (by simp only at hj; omega)] at hz
      exact h.bef j z (by simp only at hj; omega) hz
  · simp only [List.getElem?_set, List.length_set] at hz
    simp only at hj
    rw [if_neg (by omega)] at hz
    by_cases he : i = j
    · rw [if_pos he, if_pos hil] at hz
      cases hz
      exact h.aft s.2 y (Nat.le_refl _) (by omega) hy
    · rw [if_neg he] at hz
      exact h.aft j z (by omega) (by omega) hz
/-- what divide answers -/
structure DivOK (p : Label) (l : List Label) (c : Cut) (r : Piece × Piece × Bool) : Prop where
  is : r.2.2 = isCut p l c
  l1 : isCut p l c = true → r.1.Label_ = half1 p c
  l2 : isCut p l c = true → r.2.1.Label_ = half2 p c
  p1 : isCut p l c = true → r.1.labels.Perm (l.filter (before c))
  p2 : isCut p l c = true → r.2.1.labels.Perm (l.filter fun x => !before c x)
theorem DivInv.fin {c : Cut} {l : List Label} {s : List Label × Nat} (h : DivInv c l l.length s) : (s.1.take s.2).Perm (l.filter (before c)) ∧ (s.1.drop s.2).Perm (l.filter fun x => !before c x) ∧
    l.all (fun x => before c x || behind c x) = true ∧ l.any (before c) = decide (0 < s.2) ∧ l.any (fun x => !before c x) = decide (s.2 < s.1.length) := by
  have hlen := h.perm.length_eq
  have hni := h.ni
  have t1 : ∀ x, x ∈ s.1.take s.2 → before c x = true := by
    intro x hx
    obtain ⟨j, hj, rfl⟩ := List.getElem_of_mem hx
    simp only [List.length_take] at hj
    exact h.bef j _ (by omega) (by simp)
  have t2 : ∀ x, x ∈ s.1.drop s.2 → before c x = false ∧ behind c x = true := by
    intro x hx
    obtain ⟨j, hj, rfl⟩ := List.getElem_of_mem hx
    simp only [List.length_drop] at hj
    exact h.aft (s.2 + j) _ (by omega) (by omega) (by simp)
  have f1 : s.1.filter (before c) = s.1.take s.2 := by
    conv => lhs; rw [← List.take_append_drop s.2 s.1]
    rw [List.filter_append, List.filter_eq_self.2 t1, List.filter_eq_nil_iff.2 (fun x hx => by rw [(t2 x hx).1]; simp), List.append_nil]
  have f2 : s.1.filter (fun x => !before c x) = s.1.drop s.2 := by
    conv => lhs; rw [← List.take_append_drop s.2 s.1]
    rw [List.filter_append, List.filter_eq_nil_iff.2 (fun x hx => by rw [t1 x hx]; simp), List.filter_eq_self.2 (fun x hx => by rw [(t2 x hx).1]; rfl), List.nil_append]
  have g1 := (h.perm.filter (before c))
  have g2 := (h.perm.filter fun x => !before c x)
  rw [f1] at g1; rw [f2] at g2
  refine ⟨g1, g2, ?_, ?_, ?_⟩
  · rw [← h.perm.all_eq, List.all_eq_true]
    intro x hx
    rw [← List.take_append_drop s.2 s.1, List.mem_append] at hx
    rcases hx with hx | hx
    · rw [t1 x hx]; rfl
    · rw [(t2 x hx).2]; simp
  · rw [← h.perm.any_eq, Bool.eq_iff_iff, List.any_eq_true, decide_eq_true_eq]
    constructor
    · rintro ⟨x, hx, hb⟩
      have : x ∈ s.1.filter (before c) := List.mem_filter.2 ⟨hx, hb⟩
      rw [f1] at this
      have := List.length_pos_of_mem this
      simp only [List.length_take] at this; omega
    · intro hp
      have hl : 0 < s.1.length := by omega
      exact ⟨s.1[0], List.getElem_mem hl, h.bef 0 _ hp (by simp)⟩
  · rw [← h.perm.any_eq, Bool.eq_iff_iff, List.any_eq_true, decide_eq_true_eq]
    constructor
    · rintro ⟨x, hx, hb⟩
      have : x ∈ s.1.filter (fun x => !before c x) := List.mem_filter.2 ⟨hx, hb⟩
      rw [f2] at this
      have := List.length_pos_of_mem this
      simp only [List.length_drop] at this; omega
    · intro hp
      exact ⟨s.1[s.2], List.getElem_mem hp, by rw [(h.aft s.2 _ (Nat.le_refl _) (by omega) (List.getElem?_eq_getElem hp)).1]; rfl⟩
theorem f53_eq {N : Nat} {x : Label} : f53 N x = some (x.X, W (x.X + x.W)) := rfl
theorem f55_eq {N : Nat} {x : Label} : f55 N x = some (x.Y, W (x.Y + x.H)) := rfl
theorem f69_up {N : Nat} {p : Label} {l : List Label} {a : Int} (hs : Small p) (hf : ∀ x, x ∈ l → Fits p x) (hl : l.length ≤ 30) (hN : 30 < N) : ∃ r, f69 N ⟨p, l⟩ ⟨true, a⟩ = some r ∧ DivOK p l ⟨true, a⟩ r := by
  have s1 := hs.x0; have s2 := hs.y0; have s3 := hs.x1; have s4 := hs.y1; have s5 := hs.w; have s6 := hs.h
  unfold f69
  simp only [cond_true, f53_eq, Option.bind_some, f52_eq, joinK]
  rw [W_in (n := p.X + p.W) (by omega) (by omega), W_in (n := p.X + 1) (by omega) (by omega), W_in (n := p.X + p.W - 1) (by omega) (by omega)]
  have hin : inner ⟨true, a⟩ p = (decide (p.X + 1 ≤ a) && decide (a ≤ p.X + p.W - 1)) := rfl
  cases hb0 : (decide (p.X + 1 ≤ a) && decide (a ≤ p.X + p.W - 1)) with
  | false =>
    have hno : isCut p l ⟨true, a⟩ = false := by unfold isCut; rw [hin, hb0]; rfl
    refine ⟨_, rfl, ⟨hno.symm, ?_, ?_, ?_, ?_⟩⟩ <;> (intro h; rw [hno] at h; cases h)
  | true =>
    simp only [Bool.not_true, cond_false]
    have ha : p.X + 1 ≤ a ∧ a ≤ p.X + p.W - 1 := by rw [Bool.and_eq_true, decide_eq_true_iff, decide_eq_true_iff] at hb0; exact hb0
    clear hb0
    have hb0 : (decide (p.X + 1 ≤ a) && decide (a ≤ p.X + p.W - 1)) = true := by rw [decide_eq_true ha.1, decide_eq_true ha.2]; rfl
    rw [demB_same (fun h => by subst h; rfl), app_ok (by simp; omega) (by simp; omega)]
    simp only [Option.bind_some, List.nil_append]
    show ∃ r, f69_8 ⟨p, l⟩ ⟨true, a⟩ N l (f69_c17 ⟨p, l⟩ ⟨true, a⟩) N l ((0 : Nat) : Int) ((0 : Nat) : Int) = some r ∧ _
    refine loopI (F := fun m (s : List Label × Nat) i => f69_8 ⟨p, l⟩ ⟨true, a⟩ N l (f69_c17 ⟨p, l⟩ ⟨true, a⟩) m s.1 (s.2 : Int) i) l.length (fun i s => DivInv ⟨true, a⟩ l i s) (DivOK p l ⟨true, a⟩) ?_ ?_ N (l, 0) 0 DivInv.init (Nat.zero_le _) (by omega)
    · intro m s i hinv hil
      have hx : s.1[i]? = some l[i] := by rw [hinv.rest i (Nat.le_refl _)]; simp [hil]
      have hlen := hinv.perm.length_eq
      have hni := hinv.ni
      generalize hxx : l[i] = x at hx
      have hxl : l[i]? = some x := by rw [← hxx]; simp [hil]
      have hfx := hf x (List.mem_of_getElem? hxl)
      have t1 := hfx.w; have t2 := hfx.h; have t3 := hfx.x0; have t4 := hfx.y0; have t5 := hfx.x1; have t6 := hfx.y1
      have hW : W (x.X + x.W) = x.X + x.W := W_in (by omega) (by omega)
      simp only [f69_8, f69_8b, decide_eq_true (show (i : Int) < (l.length : Int) by omega), cond_true, ix_nat, hx, Option.bind_some, f53_eq, joinK, f69_c13, hW]
      by_cases c1 : x.X < a ∧ a < x.X + x.W
      · left
        have hno : isCut p l ⟨true, a⟩ = false := by
          have : (l.all fun x => before ⟨true, a⟩ x || behind ⟨true, a⟩ x) = false := by
            rw [List.all_eq_false]
            refine ⟨x, List.mem_of_getElem? hxl, ?_⟩
            simp only [Bool.or_eq_true, before_iff, behind_iff, lo, hi, cond_true]; omega
          unfold isCut; rw [this]; simp
        simp only [c1.1, c1.2, decide_true, cond_true]
        refine ⟨_, rfl, ⟨hno.symm, ?_, ?_, ?_, ?_⟩⟩ <;> (intro h; rw [hno] at h; cases h)
      · right
        have hgo : ∀ (A B : Option (Piece × Piece × Bool)), (bif decide (x.X < a) then bif decide (a < x.X + x.W) then A else B else B) = B := by
          intro A B
          by_cases d1 : x.X < a
          · have d2 : ¬ a < x.X + x.W := fun h => c1 ⟨d1, h⟩
            simp [d1, d2]
          · simp [d1]
        rw [hgo]
        by_cases c2 : x.X + x.W ≤ a
        · have hn : s.1[s.2]? = some (s.1[s.2]'(by omega)) := List.getElem?_eq_getElem _
          generalize s.1[s.2]'(by omega) = y at hn
          refine ⟨((s.1.set i y).set s.2 x, s.2 + 1), hinv.step_bef hxl hn (by simp [before, hi, c2]), ?_⟩
          have e1 : setx s.1 (i : Int) y = some (s.1.set i y) := by unfold setx; rw [if_pos ⟨by omega, by omega⟩]; simp
          have e2 : setx (s.1.set i y) (s.2 : Int) x = some ((s.1.set i y).set s.2 x) := by unfold setx; rw [if_pos ⟨by omega, by simp; omega⟩]; simp
          have e3 : ∃ z, (s.1.set i y)[s.2]? = some z := ⟨_, List.getElem?_eq_getElem (by simp; omega)⟩
          obtain ⟨z, e3⟩ := e3
          simp only [c2, decide_true, cond_true, hn, hx, Option.bind_some, e1, ix_nat, e3, e2, W_nat (show s.2 < 9223372036854775807 by omega), W_nat (show i < 9223372036854775807 by omega)]
        · refine ⟨s, hinv.step_aft hxl (by simp only [before_not, hi, cond_true]; omega) (by simp only [behind_iff, lo, cond_true]; by_cases d : x.X < a <;> omega), ?_⟩
          simp only [c2, decide_false, cond_false, W_nat (show i < 9223372036854775807 by omega)]
    · intro m s hinv
      have hlen := hinv.perm.length_eq
      have hni := hinv.ni
      obtain ⟨q1, q2, q3, q4, q5⟩ := hinv.fin
      simp only [f69_8, f69_8b, show decide ((l.length : Int) < (l.length : Int)) = false by simp, cond_false, f69_c17]
      rw [show sub s.1 0 (s.2 : Int) = some (s.1.take s.2) from (sub_nat (a := 0) (by omega) (by omega)).trans (by simp), sub_nat (by omega) (Nat.le_refl _)]
      rw [W_in (n := p.X + p.W) (by omega) (by omega), W_in (n := a - p.X) (by omega) (by omega), W_in (n := p.X + p.W - a) (by omega) (by omega)]
      have his : isCut p l ⟨true, a⟩ = (decide (0 < s.2) && decide (s.2 < s.1.length)) := by
        unfold isCut; rw [hin, hb0, q3, q4, q5]; simp
      have hd1 : (s.1.take s.1.length).drop s.2 = s.1.drop s.2 := by rw [List.take_length]
      simp only [Option.bind_some, hd1]
      by_cases d : 0 < s.2
      · simp only [show decide ((0 : Int) < (s.2 : Int)) = true by simp; omega, cond_true]
        refine ⟨_, rfl, ⟨?_, fun _ => rfl, fun _ => rfl, fun _ => q1, fun _ => q2⟩⟩
        rw [his]; simp [d]
      · simp only [show decide ((0 : Int) < (s.2 : Int)) = false by simp; omega, cond_false]
        refine ⟨_, rfl, ⟨?_, fun _ => rfl, fun _ => rfl, fun _ => q1, fun _ => q2⟩⟩
        rw [his]; simp [d]
theorem f69_lie {N : Nat} {p : Label} {l : List Label} {a : Int} (hs : Small p) (hf : ∀ x, x ∈ l → Fits p x) (hl : l.length ≤ 30) (hN : 30 < N) : ∃ r, f69 N ⟨p, l⟩ ⟨false, a⟩ = some r ∧ DivOK p l ⟨false, a⟩ r := by
  have s1 := hs.x0; have s2 := hs.y0; have s3 := hs.x1; have s4 := hs.y1; have s5 := hs.w; have s6 := hs.h
  unfold f69
  simp only [cond_false, f55_eq, Option.bind_some, f52_eq, joinK]
  rw [W_in (n := p.Y + p.H) (by omega) (by omega), W_in (n := p.Y + 1) (by omega) (by omega), W_in (n := p.Y + p.H - 1) (by omega) (by omega)]
  have hin : inner ⟨false, a⟩ p = (decide (p.Y + 1 ≤ a) && decide (a ≤ p.Y + p.H - 1)) := rfl
  cases hb0 : (decide (p.Y + 1 ≤ a) && decide (a ≤ p.Y + p.H - 1)) with
  | false =>
    have hno : isCut p l ⟨false, a⟩ = false := by unfold isCut; rw [hin, hb0]; rfl
    refine ⟨_, rfl, ⟨hno.symm, ?_, ?_, ?_, ?_⟩⟩ <;> (intro h; rw [hno] at h; cases h)
  | true =>
    simp only [Bool.not_true, cond_false]
    have ha : p.Y + 1 ≤ a ∧ a ≤ p.Y + p.H - 1 := by rw [Bool.and_eq_true, decide_eq_true_iff, decide_eq_true_iff] at hb0; exact hb0
    clear hb0
    have hb0 : (decide (p.Y + 1 ≤ a) && decide (a ≤ p.Y + p.H - 1)) = true := by rw [decide_eq_true ha.1, decide_eq_true ha.2]; rfl
    rw [demB_same (fun h => by subst h; rfl), app_ok (by simp; omega) (by simp; omega)]
    simp only [Option.bind_some, List.nil_append]
    show ∃ r, f69_8_1 ⟨p, l⟩ ⟨false, a⟩ N l (f69_c17_1 ⟨p, l⟩ ⟨false, a⟩) N l ((0 : Nat) : Int) ((0 : Nat) : Int) = some r ∧ _
    refine loopI (F := fun m (s : List Label × Nat) i => f69_8_1 ⟨p, l⟩ ⟨false, a⟩ N l (f69_c17_1 ⟨p, l⟩ ⟨false, a⟩) m s.1 (s.2 : Int) i) l.length (fun i s => DivInv ⟨false, a⟩ l i s) (DivOK p l ⟨false, a⟩) ?_ ?_ N (l, 0) 0 DivInv.init (Nat.zero_le _) (by omega)
    · intro m s i hinv hil
      have hx : s.1[i]? = some l[i] := by rw [hinv.rest i (Nat.le_refl _)]; simp [hil]
      have hlen := hinv.perm.length_eq
      have hni := hinv.ni
      generalize hxx : l[i] = x at hx
      have hxl : l[i]? = some x := by rw [← hxx]; simp [hil]
      have hfx := hf x (List.mem_of_getElem? hxl)
      have t1 := hfx.w; have t2 := hfx.h; have t3 := hfx.x0; have t4 := hfx.y0; have t5 := hfx.x1; have t6 := hfx.y1
      have hW : W (x.Y + x.H) = x.Y + x.H := W_in (by omega) (by omega)
      simp only [f69_8_1, f69_8_1b, decide_eq_true (show (i : Int) < (l.length : Int) by omega), cond_true, ix_nat, hx, Option.bind_some, f55_eq, joinK, f69_c13_1, hW]
      by_cases c1 : x.Y < a ∧ a < x.Y + x.H
      · left
        have hno : isCut p l ⟨false, a⟩ = false := by
          have : (l.all fun x => before ⟨false, a⟩ x || behind ⟨false, a⟩ x) = false := by
            rw [List.all_eq_false]
            refine ⟨x, List.mem_of_getElem? hxl, ?_⟩
            simp only [Bool.or_eq_true, before_iff, behind_iff, lo, hi, cond_false]; omega
          unfold isCut; rw [this]; simp
        simp only [c1.1, c1.2, decide_true, cond_true]
        refine ⟨_, rfl, ⟨hno.symm, ?_, ?_, ?_, ?_⟩⟩ <;> (intro h; rw [hno] at h; cases h)
      · right
        have hgo : ∀ (A B : Option (Piece × Piece × Bool)), (bif decide (x.Y < a) then bif decide (a < x.Y + x.H) then A else B else B) = B := by
          intro A B
          by_cases d1 : x.Y < a
          · have d2 : ¬ a < x.Y + x.H := fun h => c1 ⟨d1, h⟩
            simp [d1, d2]
          · simp [d1]
        rw [hgo]
        by_cases c2 : x.Y + x.H ≤ a
        · have hn : s.1[s.2]? = some (s.1[s.2]'(by omega)) := List.getElem?_eq_getElem _
          generalize s.1[s.2]'(by omega) = y at hn
          refine ⟨((s.1.set i y).set s.2 x, s.2 + 1), hinv.step_bef hxl hn (by simp [before, hi, c2]), ?_⟩
          have e1 : setx s.1 (i : Int) y = some (s.1.set i y) := by unfold setx; rw [if_pos ⟨by omega, by omega⟩]; simp
          have e2 : setx (s.1.set i y) (s.2 : Int) x = some ((s.1.set i y).set s.2 x) := by unfold setx; rw [if_pos ⟨by omega, by simp; omega⟩]; simp
          have e3 : ∃ z, (s.1.set i y)[s.2]? = some z := ⟨_, List.getElem?_eq_getElem (by simp; omega)⟩
          obtain ⟨z, e3⟩ := e3
          simp only [c2, decide_true, cond_true, hn, hx, Option.bind_some, e1, ix_nat, e3, e2, W_nat (show s.2 < 9223372036854775807 by omega), W_nat (show i < 9223372036854775807 by omega)]
        · refine ⟨s, hinv.step_aft hxl (by simp only [before_not, hi, cond_false]; omega) (by simp only [behind_iff, lo, cond_false]; by_cases d : x.Y < a <;> omega), ?_⟩
          simp only [c2, decide_false, cond_false, W_nat (show i < 9223372036854775807 by omega)]
    · intro m s hinv
      have hlen := hinv.perm.length_eq
      have hni := hinv.ni
      obtain ⟨q1, q2, q3, q4, q5⟩ := hinv.fin
      simp only [f69_8_1, f69_8_1b, show decide ((l.length : Int) < (l.length : Int)) = false by simp, cond_false, f69_c17_1]
      rw [show sub s.1 0 (s.2 : Int) = some (s.1.take s.2) from (sub_nat (a := 0) (by omega) (by omega)).trans (by simp), sub_nat (by omega) (Nat.le_refl _)]
      rw [W_in (n := p.Y + p.H) (by omega) (by omega), W_in (n := a - p.Y) (by omega) (by omega), W_in (n := p.Y + p.H - a) (by omega) (by omega)]
      have his : isCut p l ⟨false, a⟩ = (decide (0 < s.2) && decide (s.2 < s.1.length)) := by
        unfold isCut; rw [hin, hb0, q3, q4, q5]; simp
      have hd1 : (s.1.take s.1.length).drop s.2 = s.1.drop s.2 := by rw [List.take_length]
      simp only [Option.bind_some, hd1]
      by_cases d : 0 < s.2
      · simp only [show decide ((0 : Int) < (s.2 : Int)) = true by simp; omega, cond_true]
        refine ⟨_, rfl, ⟨?_, fun _ => rfl, fun _ => rfl, fun _ => q1, fun _ => q2⟩⟩
        rw [his]; simp [d]
      · simp only [show decide ((0 : Int) < (s.2 : Int)) = false by simp; omega, cond_false]
        refine ⟨_, rfl, ⟨?_, fun _ => rfl, fun _ => rfl, fun _ => q1, fun _ => q2⟩⟩
        rw [his]; simp [d]
theorem f69_ok {N : Nat} {p : Label} {l : List Label} {c : Cut} (hs : Small p) (hf : ∀ x, x ∈ l → Fits p x) (hl : l.length ≤ 30) (hN : 30 < N) : ∃ r, f69 N ⟨p, l⟩ c = some r ∧ DivOK p l c r := by
  obtain ⟨up, a⟩ := c
  cases up with
  | true => exact f69_up hs hf hl hN
  | false => exact f69_lie hs hf hl hN
end Go.Vc
namespace Go.Vc
open Go.Proofs
set_option linter.unusedVariables false
set_option linter.unnecessarySimpa false
set_option linter.unusedSimpArgs false
def f3_c15 (a0 : Layout) (N : Nat) (x3 : Layout) : Option (Bool) :=
 (f20 N a0).bind fun x9 =>
 (f21 N x3).bind fun x10 =>
 bif decide (x9 = x10) then ((f13 N ).bind fun x11 =>
 some (x11))
 else (some (false))
def f3_11b (r11 : Int → Option (Bool)) (a0 : Layout) (x3 : Layout) (x4 : (List Cut) × Int) (x5 : (List Cut) × Int) (k0 : Option (Bool)) (v14 : Int) : Option (Bool) :=
 bif decide (v14 < (List.length x4.1 : Int)) then ((ix x4.1 v14).bind fun x12 =>
 (ix x5.1 v14).bind fun x13 =>
 bif !((x12.Up == x13.Up) && (decide (x12.At = x13.At) && true)) then (some (false))
 else (r11 (W (v14 + (1 : Int)))))
 else k0
def f3_11 (a0 : Layout) (x3 : Layout) (x4 : (List Cut) × Int) (x5 : (List Cut) × Int) (k0 : Option (Bool)) : Nat → Int → Option (Bool)
  | 0, _ => none
  | n + 1, v14 => f3_11b (f3_11 a0 x3 x4 x5 k0 n) a0 x3 x4 x5 k0 v14
def f3 (N : Nat) (a0 : Layout) (a1 : List Kind) : Option (Bool) :=
 bif decide ((30 : Int) < (List.length a0.Labels : Int)) then ((f13 N ).bind fun x1 =>
 some (x1))
 else (bif decide ((30 : Int) < (List.length a1 : Int)) then ((f13 N ).bind fun x2 =>
 some (x2))
 else ((f14 N a0).bind fun x3 =>
 (f15 N a0).bind fun x4 =>
 (f16 N x3).bind fun x5 =>
 (f17 N a0 a1).bind fun x6 =>
 (f19 N a1).bind fun x7 =>
 (f18 N x3 x7).bind fun x8 =>
 bif decide (¬ x4.2 = x5.2) then (some (false))
 else (bif decide (¬ (List.length x4.1 : Int) = (List.length x5.1 : Int)) then (some (false))
 else (bif decide (¬ x6.1 = x8.1) then (some (false))
 else (bif decide (¬ x6.2 = x8.2) then (some (false))
 else (joinK (f3_c15 a0 N x3) fun k0 =>
 f3_11 a0 x3 x4 x5 k0 N (0 : Int)))))))
end Go.Vc

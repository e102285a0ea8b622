/-
  A library for proofs about Go functions by symbolic evaluation, and plain Lean functions that the walked Go functions compute (written by a program of this claim).
-/
import Derived.Test.YtifcnocpjdmaiaaLessF1
import Derived.Test.YtifcnocpjdmaiaaVc2
namespace Go.Vc
open Go.Proofs
set_option linter.unusedVariables false
set_option linter.unnecessarySimpa false
set_option linter.unusedSimpArgs false
section
variable {c : Ctx} {p nid : Nat} {a b : Code} {st : St} {K : Ex → St → Prop}
/- f31: tusche/cut.Lay -/
def f31_c10 (a0 : Int) (a1 : Int) (N : Nat) (b101 : List Choice) (b703_2 : List Label) : Option (Layout × Int) :=
 (f68 N (Label.mk (0 : Int) (0 : Int) a0 a1) a0 a1 b101 b703_2).bind fun x3 =>
 some ((Layout.mk a0 a1 x3), (0 : Int))
def Sf31_c10 : Ann := ⟨[0, 1, 6, 10, 11], [0, 404, 703, 800, 90500, 404000101], [(.cell 703 2, 90500, 50, 4)], []⟩
def Vf31_c10 (a0 : Int) (a1 : Int) (b101 : List Choice) (b703_2 : List Label) : List SV := [.dat (iN a0), .dat (iN a1), .ptr 0 0, .ptr 703 0, .ptr 800 0]
def Bf31_c10 (a0 : Int) (a1 : Int) (b101 : List Choice) (b703_2 : List Label) : List Blk := [.box [.dat (iN (0 : Int)), .dat (iN (0 : Int)), .nil], .box [.ptr 404000101 0], .box [.dat (iN a0), .dat (iN a1), .rs 90500 (List.length b703_2)], .box [.fn 68 [] [.ptr 404 0, .ptr 703 0, .ptr 800 0]], .row 50 4 (List.map Label.d b703_2), .arr (flatC Choice.d b101)]
def Yf31_c10 (a0 : Int) (a1 : Int) (b101 : List Choice) (y : (List Label)) : List SV := Vf31_c10 a0 a1 b101 y
def Xf31_c10 (a0 : Int) (a1 : Int) (b101 : List Choice) (y : (List Label)) : List Blk := Bf31_c10 a0 a1 b101 y
def Jf31_c10 (a0 : Int) (a1 : Int) (N : Nat) (b101 : List Choice) (r : Layout × Int) (y : (List Label)) : Prop := f31_c10 a0 a1 N b101 y = some r
def V2f31_c10 (a0 : Int) (a1 : Int) (b101 : List Choice) (b703_2 : List Label) (m0 : Nat) : List SV := [.dat (iN a0), .dat (iN a1), .ptr 0 0, .ptr 703 0, .ptr 800 0]
def B2f31_c10 (a0 : Int) (a1 : Int) (b101 : List Choice) (b703_2 : List Label) (m0 : Nat) : List Blk := [.box [.dat (iN (0 : Int)), .dat (iN (0 : Int)), .nil], .box [.ptr 404000101 0], .box [.dat (iN a0), .dat (iN a1), .rs 90500 m0], .box [.fn 68 [] [.ptr 404 0, .ptr 703 0, .ptr 800 0]], .row 50 4 (List.map Label.d b703_2), .arr (flatC Choice.d b101)]
theorem Cf31_c10 {r : Layout × Int} {a0 : Int} {a1 : Int} {N : Nat} {b101 : List Choice} {g : _ → Option (Layout × Int)} (hn : Nat.beq (nid * 1000 + firstRegion b) 10 = true) (hz : Sf31_c10.ok p = true) (h : g (f31_c10 a0 a1 N b101) = some r → vc c p nid a st (KHead Sf31_c10 (Yf31_c10 a0 a1 b101) (Xf31_c10 a0 a1 b101) (Jf31_c10 a0 a1 N b101 r) K)) (h2 : ∀ (b703_2 : List Label), f31_c10 a0 a1 N b101 b703_2 = some r → vc c p nid b (St.mk' Sf31_c10 (Vf31_c10 a0 a1 b101 b703_2) (Bf31_c10 a0 a1 b101 b703_2)) K) (hF : joinK (f31_c10 a0 a1 N b101) g = some r) : vc c p nid (.seq a b) st K :=
  vc_cut Sf31_c10 (Yf31_c10 a0 a1 b101) (Xf31_c10 a0 a1 b101) (Jf31_c10 a0 a1 N b101 r) hz (h hF) fun y hy => h2 y hy
theorem Zf31_c10 {r : Layout × Int} {a0 : Int} {a1 : Int} {N : Nat} {b101 : List Choice} {b703_2 : List Label} {m0 : Nat} (hF : f31_c10 a0 a1 N b101 b703_2 = some r) (h0 : AtH Sf31_c10 st (V2f31_c10 a0 a1 b101 b703_2 m0) (B2f31_c10 a0 a1 b101 b703_2 m0)) (em0 : m0 = List.length b703_2) : KHead Sf31_c10 (Yf31_c10 a0 a1 b101) (Xf31_c10 a0 a1 b101) (Jf31_c10 a0 a1 N b101 r) K .normal st := by
  subst em0; exact khead (I := (Jf31_c10 a0 a1 N b101 r)) (x := (b703_2)) hF h0
def f31_i403_c21 (a0 : Int) (a1 : Int) (N : Nat) (b101 : List Choice) : Option (Layout × Int) :=
 (chkI 13 a0).bind fun _ =>
 (chkI 13 a1).bind fun _ =>
 (ixN b101 (Int.toNat a0 * 13 + Int.toNat a1)).bind fun x2 =>
 bif decide ((10 : Int) < x2.labels) then (some ((Layout.mk (0 : Int) (0 : Int) []), (16 : Int)))
 else (joinK (f31_c10 a0 a1 N b101) fun k0 =>
 k0 [])
def Sf31_i403_c21 : Ann := ⟨[7], [0, 404000101], [], []⟩
def Vf31_i403_c21 (b101 : List Choice) : List SV := [.ptr 404000101 0]
def Bf31_i403_c21 (b101 : List Choice) : List Blk := [.box [.dat (iN (0 : Int)), .dat (iN (0 : Int)), .nil], .arr (flatC Choice.d b101)]
def Yf31_i403_c21 (y : (List Choice)) : List SV := Vf31_i403_c21 y
def Xf31_i403_c21 (y : (List Choice)) : List Blk := Bf31_i403_c21 y
def Jf31_i403_c21 (a0 : Int) (a1 : Int) (N : Nat) (r : Layout × Int) (y : (List Choice)) : Prop := f31_i403_c21 a0 a1 N y = some r
theorem Cf31_i403_c21 {r : Layout × Int} {a0 : Int} {a1 : Int} {N : Nat} {g : _ → Option (Layout × Int)} (hn : Nat.beq (nid * 1000 + firstRegion b) 404000000021 = true) (hz : Sf31_i403_c21.ok p = true) (h : g (f31_i403_c21 a0 a1 N) = some r → vc c p nid a st (KHead Sf31_i403_c21 Yf31_i403_c21 Xf31_i403_c21 (Jf31_i403_c21 a0 a1 N r) K)) (h2 : ∀ (b101 : List Choice), f31_i403_c21 a0 a1 N b101 = some r → vc c p nid b (St.mk' Sf31_i403_c21 (Vf31_i403_c21 b101) (Bf31_i403_c21 b101)) K) (hF : joinK (f31_i403_c21 a0 a1 N) g = some r) : vc c p nid (.seq a b) st K :=
  vc_cut Sf31_i403_c21 Yf31_i403_c21 Xf31_i403_c21 (Jf31_i403_c21 a0 a1 N r) hz (h hF) fun y hy => h2 y hy
theorem Zf31_i403_c21 {r : Layout × Int} {a0 : Int} {a1 : Int} {N : Nat} {b101 : List Choice} (hF : f31_i403_c21 a0 a1 N b101 = some r) (h0 : AtH Sf31_i403_c21 st (Vf31_i403_c21 b101) (Bf31_i403_c21 b101)) : KHead Sf31_i403_c21 Yf31_i403_c21 Xf31_i403_c21 (Jf31_i403_c21 a0 a1 N r) K .normal st := by
  exact khead (I := (Jf31_i403_c21 a0 a1 N r)) (x := (b101)) hF h0
def f31_i403_c4 (a0 : Int) (a1 : Int) (a2 : List Kind) (v8 : Int) (r3 : Int → (List Choice) → Option (Layout × Int)) (b101' : List Choice) : Option (Layout × Int) :=
 r3 (W (v8 + (1 : Int))) (b101')
def Sf31_i403_c4 : Ann := ⟨[0, 1, 2, 7, 8], [0, 404000101], [], []⟩
def Vf31_i403_c4 (a0 : Int) (a1 : Int) (a2 : List Kind) (v8 : Int) (b101' : List Choice) : List SV := [.dat (iN a0), .dat (iN a1), .dat (sl_Kind a2), .ptr 404000101 0, .dat (iN v8)]
def Bf31_i403_c4 (a0 : Int) (a1 : Int) (a2 : List Kind) (v8 : Int) (b101' : List Choice) : List Blk := [.box [.dat (iN (0 : Int)), .dat (iN (0 : Int)), .nil], .arr (flatC Choice.d (b101'))]
def Yf31_i403_c4 (a0 : Int) (a1 : Int) (a2 : List Kind) (v8 : Int) (y : (List Choice)) : List SV := Vf31_i403_c4 a0 a1 a2 v8 y
def Xf31_i403_c4 (a0 : Int) (a1 : Int) (a2 : List Kind) (v8 : Int) (y : (List Choice)) : List Blk := Bf31_i403_c4 a0 a1 a2 v8 y
def Jf31_i403_c4 (a0 : Int) (a1 : Int) (a2 : List Kind) (v8 : Int) (r3 : Int → (List Choice) → Option (Layout × Int)) (r : Layout × Int) (y : (List Choice)) : Prop := f31_i403_c4 a0 a1 a2 v8 r3 y = some r
theorem Cf31_i403_c4 {r : Layout × Int} {a0 : Int} {a1 : Int} {a2 : List Kind} {v8 : Int} {r3 : Int → (List Choice) → Option (Layout × Int)} {g : _ → Option (Layout × Int)} (hn : Nat.beq (nid * 1000 + firstRegion b) 404000000004 = true) (hz : Sf31_i403_c4.ok p = true) (h : g (f31_i403_c4 a0 a1 a2 v8 r3) = some r → vc c p nid a st (KHead Sf31_i403_c4 (Yf31_i403_c4 a0 a1 a2 v8) (Xf31_i403_c4 a0 a1 a2 v8) (Jf31_i403_c4 a0 a1 a2 v8 r3 r) K)) (h2 : ∀ (b101' : List Choice), f31_i403_c4 a0 a1 a2 v8 r3 b101' = some r → vc c p nid b (St.mk' Sf31_i403_c4 (Vf31_i403_c4 a0 a1 a2 v8 b101') (Bf31_i403_c4 a0 a1 a2 v8 b101')) K) (hF : joinK (f31_i403_c4 a0 a1 a2 v8 r3) g = some r) : vc c p nid (.seq a b) st K :=
  vc_cut Sf31_i403_c4 (Yf31_i403_c4 a0 a1 a2 v8) (Xf31_i403_c4 a0 a1 a2 v8) (Jf31_i403_c4 a0 a1 a2 v8 r3 r) hz (h hF) fun y hy => h2 y hy
theorem Zf31_i403_c4 {r : Layout × Int} {a0 : Int} {a1 : Int} {a2 : List Kind} {v8 : Int} {r3 : Int → (List Choice) → Option (Layout × Int)} {b101' : List Choice} (hF : f31_i403_c4 a0 a1 a2 v8 r3 b101' = some r) (h0 : AtH Sf31_i403_c4 st (Vf31_i403_c4 a0 a1 a2 v8 b101') (Bf31_i403_c4 a0 a1 a2 v8 b101')) : KHead Sf31_i403_c4 (Yf31_i403_c4 a0 a1 a2 v8) (Xf31_i403_c4 a0 a1 a2 v8) (Jf31_i403_c4 a0 a1 a2 v8 r3 r) K .normal st := by
  exact khead (I := (Jf31_i403_c4 a0 a1 a2 v8 r3 r)) (x := (b101')) hF h0
def f31_i403_c7 (a0 : Int) (a1 : Int) (a2 : List Kind) (v8 : Int) (v9 : Int) (r6 : Int → (List Choice) → Option (Layout × Int)) (b101'' : List Choice) : Option (Layout × Int) :=
 r6 (W (v9 + (1 : Int))) (b101'')
def Sf31_i403_c7 : Ann := ⟨[0, 1, 2, 7, 8, 9], [0, 404000101], [], []⟩
def Vf31_i403_c7 (a0 : Int) (a1 : Int) (a2 : List Kind) (v8 : Int) (v9 : Int) (b101'' : List Choice) : List SV := [.dat (iN a0), .dat (iN a1), .dat (sl_Kind a2), .ptr 404000101 0, .dat (iN v8), .dat (iN v9)]
def Bf31_i403_c7 (a0 : Int) (a1 : Int) (a2 : List Kind) (v8 : Int) (v9 : Int) (b101'' : List Choice) : List Blk := [.box [.dat (iN (0 : Int)), .dat (iN (0 : Int)), .nil], .arr (flatC Choice.d (b101''))]
def Yf31_i403_c7 (a0 : Int) (a1 : Int) (a2 : List Kind) (v8 : Int) (v9 : Int) (y : (List Choice)) : List SV := Vf31_i403_c7 a0 a1 a2 v8 v9 y
def Xf31_i403_c7 (a0 : Int) (a1 : Int) (a2 : List Kind) (v8 : Int) (v9 : Int) (y : (List Choice)) : List Blk := Bf31_i403_c7 a0 a1 a2 v8 v9 y
def Jf31_i403_c7 (a0 : Int) (a1 : Int) (a2 : List Kind) (v8 : Int) (v9 : Int) (r6 : Int → (List Choice) → Option (Layout × Int)) (r : Layout × Int) (y : (List Choice)) : Prop := f31_i403_c7 a0 a1 a2 v8 v9 r6 y = some r
theorem Cf31_i403_c7 {r : Layout × Int} {a0 : Int} {a1 : Int} {a2 : List Kind} {v8 : Int} {v9 : Int} {r6 : Int → (List Choice) → Option (Layout × Int)} {g : _ → Option (Layout × Int)} (hn : Nat.beq (nid * 1000 + firstRegion b) 404000000007 = true) (hz : Sf31_i403_c7.ok p = true) (h : g (f31_i403_c7 a0 a1 a2 v8 v9 r6) = some r → vc c p nid a st (KHead Sf31_i403_c7 (Yf31_i403_c7 a0 a1 a2 v8 v9) (Xf31_i403_c7 a0 a1 a2 v8 v9) (Jf31_i403_c7 a0 a1 a2 v8 v9 r6 r) K)) (h2 : ∀ (b101'' : List Choice), f31_i403_c7 a0 a1 a2 v8 v9 r6 b101'' = some r → vc c p nid b (St.mk' Sf31_i403_c7 (Vf31_i403_c7 a0 a1 a2 v8 v9 b101'') (Bf31_i403_c7 a0 a1 a2 v8 v9 b101'')) K) (hF : joinK (f31_i403_c7 a0 a1 a2 v8 v9 r6) g = some r) : vc c p nid (.seq a b) st K :=
  vc_cut Sf31_i403_c7 (Yf31_i403_c7 a0 a1 a2 v8 v9) (Xf31_i403_c7 a0 a1 a2 v8 v9) (Jf31_i403_c7 a0 a1 a2 v8 v9 r6 r) hz (h hF) fun y hy => h2 y hy
theorem Zf31_i403_c7 {r : Layout × Int} {a0 : Int} {a1 : Int} {a2 : List Kind} {v8 : Int} {v9 : Int} {r6 : Int → (List Choice) → Option (Layout × Int)} {b101'' : List Choice} (hF : f31_i403_c7 a0 a1 a2 v8 v9 r6 b101'' = some r) (h0 : AtH Sf31_i403_c7 st (Vf31_i403_c7 a0 a1 a2 v8 v9 b101'') (Bf31_i403_c7 a0 a1 a2 v8 v9 b101'')) : KHead Sf31_i403_c7 (Yf31_i403_c7 a0 a1 a2 v8 v9) (Xf31_i403_c7 a0 a1 a2 v8 v9) (Jf31_i403_c7 a0 a1 a2 v8 v9 r6 r) K .normal st := by
  exact khead (I := (Jf31_i403_c7 a0 a1 a2 v8 v9 r6 r)) (x := (b101'')) hF h0
def f31_i403_18b (r18 : Int → (List Choice) → Option (Layout × Int)) (a0 : Int) (a1 : Int) (a2 : List Kind) (N : Nat) (v8 : Int) (v9 : Int) (k3 : (List Choice) → Option (Layout × Int)) (v15 : Int) (b101'''' : List Choice) : Option (Layout × Int) :=
 bif decide (v15 < v9) then ((chkI 13 v8).bind fun _ =>
 (chkI 13 v15).bind fun _ =>
 (ixN (b101'''') (Int.toNat v8 * 13 + Int.toNat v15)).bind fun x4 =>
 (chkI 13 v8).bind fun _ =>
 (chkI 13 (W (v9 - v15))).bind fun _ =>
 (ixN (b101'''') (Int.toNat v8 * 13 + Int.toNat (W (v9 - v15)))).bind fun x5 =>
 (ixN (b101'''') (Int.toNat v8 * 13 + Int.toNat v9)).bind fun x6 =>
 (f75 N (Choice.mk (W (x4.worth + x5.worth)) (W (x4.labels + x5.labels)) false (Cut.mk false v15)) x6).bind fun x7 =>
 bif x7 then ((setN (b101'''') (Int.toNat v8 * 13 + Int.toNat v9) (Choice.mk (W (x4.worth + x5.worth)) (W (x4.labels + x5.labels)) false (Cut.mk false v15))).bind fun x8 =>
 r18 (W (v15 + (1 : Int))) x8)
 else (r18 (W (v15 + (1 : Int))) (b101'''')))
 else (k3 (b101''''))
def f31_i403_18 (a0 : Int) (a1 : Int) (a2 : List Kind) (N : Nat) (v8 : Int) (v9 : Int) (k3 : (List Choice) → Option (Layout × Int)) : Nat → Int → (List Choice) → Option (Layout × Int)
  | 0, _, _ => none
  | n + 1, v15, b101'''' => f31_i403_18b (f31_i403_18 a0 a1 a2 N v8 v9 k3 n) a0 a1 a2 N v8 v9 k3 v15 b101''''
def Sf31_i403_18 : Ann := ⟨[0, 1, 2, 7, 8, 9, 13, 15], [0, 404000101, 404000806], [], []⟩
def Vf31_i403_18 (a0 : Int) (a1 : Int) (a2 : List Kind) (v8 : Int) (v9 : Int) (v15 : Int) (b101'''' : List Choice) : List SV := [.dat (iN a0), .dat (iN a1), .dat (sl_Kind a2), .ptr 404000101 0, .dat (iN v8), .dat (iN v9), .fn 74 [] [.ptr 404000806 0], .dat (iN v15)]
def Bf31_i403_18 (a0 : Int) (a1 : Int) (a2 : List Kind) (v8 : Int) (v9 : Int) (v15 : Int) (b101'''' : List Choice) : List Blk := [.box [.dat (iN (0 : Int)), .dat (iN (0 : Int)), .nil], .arr (flatC Choice.d (b101'''')), .box [.ptr 404000101 (0 + Int.toNat v8 * 65 + Int.toNat v9 * 5)]]
def Yf31_i403_18 (a0 : Int) (a1 : Int) (a2 : List Kind) (v8 : Int) (v9 : Int) (y : Nat × Int × (List Choice)) : List SV := Vf31_i403_18 a0 a1 a2 v8 v9 y.2.1 y.2.2
def Xf31_i403_18 (a0 : Int) (a1 : Int) (a2 : List Kind) (v8 : Int) (v9 : Int) (y : Nat × Int × (List Choice)) : List Blk := Bf31_i403_18 a0 a1 a2 v8 v9 y.2.1 y.2.2
def Jf31_i403_18 (a0 : Int) (a1 : Int) (a2 : List Kind) (N : Nat) (v8 : Int) (v9 : Int) (k3 : (List Choice) → Option (Layout × Int)) (r : Layout × Int) (y : Nat × Int × (List Choice)) : Prop := f31_i403_18 a0 a1 a2 N v8 v9 k3 y.1 y.2.1 y.2.2 = some r
theorem Lf31_i403_18 {r : Layout × Int} {a0 : Int} {a1 : Int} {a2 : List Kind} {N : Nat} {v8 : Int} {v9 : Int} {k3 : (List Choice) → Option (Layout × Int)} {fu : Nat} {v15 : Int} {b101'''' : List Choice} (hz : Sf31_i403_18.ok p = true) (h0 : AtH Sf31_i403_18 st (Vf31_i403_18 a0 a1 a2 v8 v9 v15 b101'''') (Bf31_i403_18 a0 a1 a2 v8 v9 v15 b101'''')) (h : ∀ (n : Nat) (v15 : Int) (b101'''' : List Choice), f31_i403_18b (f31_i403_18 a0 a1 a2 N v8 v9 k3 n) a0 a1 a2 N v8 v9 k3 v15 b101'''' = some r → vc c p nid a (St.mk' Sf31_i403_18 (Vf31_i403_18 a0 a1 a2 v8 v9 v15 b101'''') (Bf31_i403_18 a0 a1 a2 v8 v9 v15 b101'''')) (Kloop Sf31_i403_18 (Yf31_i403_18 a0 a1 a2 v8 v9) (Xf31_i403_18 a0 a1 a2 v8 v9) (Jf31_i403_18 a0 a1 a2 N v8 v9 k3 r) Prod.fst (n + 1, v15, b101'''') K)) (hF : f31_i403_18 a0 a1 a2 N v8 v9 k3 fu v15 b101'''' = some r) : vc c p nid (.loop a) st K := by
  refine vc_loop Sf31_i403_18 (Yf31_i403_18 a0 a1 a2 v8 v9) (Xf31_i403_18 a0 a1 a2 v8 v9) (Jf31_i403_18 a0 a1 a2 N v8 v9 k3 r) Prod.fst hz (kheadL (x := (fu, v15, b101'''')) hF h0) ?_
  rintro ⟨_ | n, v15, b101''''⟩ hI
  · cases hI
  · exact h n v15 b101'''' hI
theorem Mf31_i403_18 {r : Layout × Int} {a0 : Int} {a1 : Int} {a2 : List Kind} {N : Nat} {v8 : Int} {v9 : Int} {k3 : (List Choice) → Option (Layout × Int)} {n : Nat} {v15 : Int} {b101'''' : List Choice} {v15_ : Int} {b101''''_ : List Choice} (hF : f31_i403_18 a0 a1 a2 N v8 v9 k3 n v15 b101'''' = some r) (h0 : AtH Sf31_i403_18 st (Vf31_i403_18 a0 a1 a2 v8 v9 v15 b101'''') (Bf31_i403_18 a0 a1 a2 v8 v9 v15 b101'''')) : Kloop Sf31_i403_18 (Yf31_i403_18 a0 a1 a2 v8 v9) (Xf31_i403_18 a0 a1 a2 v8 v9) (Jf31_i403_18 a0 a1 a2 N v8 v9 k3 r) Prod.fst (n + 1, v15_, b101''''_) K .normal st := by
  exact kback (y := (n, v15, b101'''')) hF (Nat.lt_succ_self n) h0
def f31_i403_c17 (a0 : Int) (a1 : Int) (a2 : List Kind) (N : Nat) (v8 : Int) (v9 : Int) (k3 : (List Choice) → Option (Layout × Int)) (b101''' : List Choice) : Option (Layout × Int) :=
 f31_i403_18 a0 a1 a2 N v8 v9 k3 N (1 : Int) (b101''')
def Sf31_i403_c17 : Ann := ⟨[0, 1, 2, 7, 8, 9, 13], [0, 404000101, 404000806], [], []⟩
def Vf31_i403_c17 (a0 : Int) (a1 : Int) (a2 : List Kind) (v8 : Int) (v9 : Int) (b101''' : List Choice) : List SV := [.dat (iN a0), .dat (iN a1), .dat (sl_Kind a2), .ptr 404000101 0, .dat (iN v8), .dat (iN v9), .fn 74 [] [.ptr 404000806 0]]
def Bf31_i403_c17 (a0 : Int) (a1 : Int) (a2 : List Kind) (v8 : Int) (v9 : Int) (b101''' : List Choice) : List Blk := [.box [.dat (iN (0 : Int)), .dat (iN (0 : Int)), .nil], .arr (flatC Choice.d (b101''')), .box [.ptr 404000101 (0 + Int.toNat v8 * 65 + Int.toNat v9 * 5)]]
def Yf31_i403_c17 (a0 : Int) (a1 : Int) (a2 : List Kind) (v8 : Int) (v9 : Int) (y : (List Choice)) : List SV := Vf31_i403_c17 a0 a1 a2 v8 v9 y
def Xf31_i403_c17 (a0 : Int) (a1 : Int) (a2 : List Kind) (v8 : Int) (v9 : Int) (y : (List Choice)) : List Blk := Bf31_i403_c17 a0 a1 a2 v8 v9 y
def Jf31_i403_c17 (a0 : Int) (a1 : Int) (a2 : List Kind) (N : Nat) (v8 : Int) (v9 : Int) (k3 : (List Choice) → Option (Layout × Int)) (r : Layout × Int) (y : (List Choice)) : Prop := f31_i403_c17 a0 a1 a2 N v8 v9 k3 y = some r
theorem Cf31_i403_c17 {r : Layout × Int} {a0 : Int} {a1 : Int} {a2 : List Kind} {N : Nat} {v8 : Int} {v9 : Int} {k3 : (List Choice) → Option (Layout × Int)} {g : _ → Option (Layout × Int)} (hn : Nat.beq (nid * 1000 + firstRegion b) 404000000017 = true) (hz : Sf31_i403_c17.ok p = true) (h : g (f31_i403_c17 a0 a1 a2 N v8 v9 k3) = some r → vc c p nid a st (KHead Sf31_i403_c17 (Yf31_i403_c17 a0 a1 a2 v8 v9) (Xf31_i403_c17 a0 a1 a2 v8 v9) (Jf31_i403_c17 a0 a1 a2 N v8 v9 k3 r) K)) (h2 : ∀ (b101''' : List Choice), f31_i403_c17 a0 a1 a2 N v8 v9 k3 b101''' = some r → vc c p nid b (St.mk' Sf31_i403_c17 (Vf31_i403_c17 a0 a1 a2 v8 v9 b101''') (Bf31_i403_c17 a0 a1 a2 v8 v9 b101''')) K) (hF : joinK (f31_i403_c17 a0 a1 a2 N v8 v9 k3) g = some r) : vc c p nid (.seq a b) st K :=
  vc_cut Sf31_i403_c17 (Yf31_i403_c17 a0 a1 a2 v8 v9) (Xf31_i403_c17 a0 a1 a2 v8 v9) (Jf31_i403_c17 a0 a1 a2 N v8 v9 k3 r) hz (h hF) fun y hy => h2 y hy
theorem Zf31_i403_c17 {r : Layout × Int} {a0 : Int} {a1 : Int} {a2 : List Kind} {N : Nat} {v8 : Int} {v9 : Int} {k3 : (List Choice) → Option (Layout × Int)} {b101''' : List Choice} (hF : f31_i403_c17 a0 a1 a2 N v8 v9 k3 b101''' = some r) (h0 : AtH Sf31_i403_c17 st (Vf31_i403_c17 a0 a1 a2 v8 v9 b101''') (Bf31_i403_c17 a0 a1 a2 v8 v9 b101''')) : KHead Sf31_i403_c17 (Yf31_i403_c17 a0 a1 a2 v8 v9) (Xf31_i403_c17 a0 a1 a2 v8 v9) (Jf31_i403_c17 a0 a1 a2 N v8 v9 k3 r) K .normal st := by
  exact khead (I := (Jf31_i403_c17 a0 a1 a2 N v8 v9 k3 r)) (x := (b101''')) hF h0
def f31_i403_14b (r14 : Int → (List Choice) → Option (Layout × Int)) (a0 : Int) (a1 : Int) (a2 : List Kind) (N : Nat) (v8 : Int) (v9 : Int) (k4 : (List Choice) → Option (Layout × Int)) (v14 : Int) (b101''' : List Choice) : Option (Layout × Int) :=
 bif decide (v14 < v8) then ((chkI 13 v14).bind fun _ =>
 (chkI 13 v9).bind fun _ =>
 (ixN (b101''') (Int.toNat v14 * 13 + Int.toNat v9)).bind fun x9 =>
 (chkI 13 (W (v8 - v14))).bind fun _ =>
 (chkI 13 v9).bind fun _ =>
 (ixN (b101''') (Int.toNat (W (v8 - v14)) * 13 + Int.toNat v9)).bind fun x10 =>
 (ixN (b101''') (Int.toNat v8 * 13 + Int.toNat v9)).bind fun x11 =>
 (f75 N (Choice.mk (W (x9.worth + x10.worth)) (W (x9.labels + x10.labels)) false (Cut.mk true v14)) x11).bind fun x12 =>
 bif x12 then ((setN (b101''') (Int.toNat v8 * 13 + Int.toNat v9) (Choice.mk (W (x9.worth + x10.worth)) (W (x9.labels + x10.labels)) false (Cut.mk true v14))).bind fun x13 =>
 r14 (W (v14 + (1 : Int))) x13)
 else (r14 (W (v14 + (1 : Int))) (b101''')))
 else (k4 (b101'''))
def f31_i403_14 (a0 : Int) (a1 : Int) (a2 : List Kind) (N : Nat) (v8 : Int) (v9 : Int) (k4 : (List Choice) → Option (Layout × Int)) : Nat → Int → (List Choice) → Option (Layout × Int)
  | 0, _, _ => none
  | n + 1, v14, b101''' => f31_i403_14b (f31_i403_14 a0 a1 a2 N v8 v9 k4 n) a0 a1 a2 N v8 v9 k4 v14 b101'''
def Sf31_i403_14 : Ann := ⟨[0, 1, 2, 7, 8, 9, 13, 14], [0, 404000101, 404000806], [], []⟩
def Vf31_i403_14 (a0 : Int) (a1 : Int) (a2 : List Kind) (v8 : Int) (v9 : Int) (v14 : Int) (b101''' : List Choice) : List SV := [.dat (iN a0), .dat (iN a1), .dat (sl_Kind a2), .ptr 404000101 0, .dat (iN v8), .dat (iN v9), .fn 74 [] [.ptr 404000806 0], .dat (iN v14)]
def Bf31_i403_14 (a0 : Int) (a1 : Int) (a2 : List Kind) (v8 : Int) (v9 : Int) (v14 : Int) (b101''' : List Choice) : List Blk := [.box [.dat (iN (0 : Int)), .dat (iN (0 : Int)), .nil], .arr (flatC Choice.d (b101''')), .box [.ptr 404000101 (0 + Int.toNat v8 * 65 + Int.toNat v9 * 5)]]
def Yf31_i403_14 (a0 : Int) (a1 : Int) (a2 : List Kind) (v8 : Int) (v9 : Int) (y : Nat × Int × (List Choice)) : List SV := Vf31_i403_14 a0 a1 a2 v8 v9 y.2.1 y.2.2
def Xf31_i403_14 (a0 : Int) (a1 : Int) (a2 : List Kind) (v8 : Int) (v9 : Int) (y : Nat × Int × (List Choice)) : List Blk := Bf31_i403_14 a0 a1 a2 v8 v9 y.2.1 y.2.2
def Jf31_i403_14 (a0 : Int) (a1 : Int) (a2 : List Kind) (N : Nat) (v8 : Int) (v9 : Int) (k4 : (List Choice) → Option (Layout × Int)) (r : Layout × Int) (y : Nat × Int × (List Choice)) : Prop := f31_i403_14 a0 a1 a2 N v8 v9 k4 y.1 y.2.1 y.2.2 = some r
theorem Lf31_i403_14 {r : Layout × Int} {a0 : Int} {a1 : Int} {a2 : List Kind} {N : Nat} {v8 : Int} {v9 : Int} {k4 : (List Choice) → Option (Layout × Int)} {fu : Nat} {v14 : Int} {b101''' : List Choice} (hz : Sf31_i403_14.ok p = true) (h0 : AtH Sf31_i403_14 st (Vf31_i403_14 a0 a1 a2 v8 v9 v14 b101''') (Bf31_i403_14 a0 a1 a2 v8 v9 v14 b101''')) (h : ∀ (n : Nat) (v14 : Int) (b101''' : List Choice), f31_i403_14b (f31_i403_14 a0 a1 a2 N v8 v9 k4 n) a0 a1 a2 N v8 v9 k4 v14 b101''' = some r → vc c p nid a (St.mk' Sf31_i403_14 (Vf31_i403_14 a0 a1 a2 v8 v9 v14 b101''') (Bf31_i403_14 a0 a1 a2 v8 v9 v14 b101''')) (Kloop Sf31_i403_14 (Yf31_i403_14 a0 a1 a2 v8 v9) (Xf31_i403_14 a0 a1 a2 v8 v9) (Jf31_i403_14 a0 a1 a2 N v8 v9 k4 r) Prod.fst (n + 1, v14, b101''') K)) (hF : f31_i403_14 a0 a1 a2 N v8 v9 k4 fu v14 b101''' = some r) : vc c p nid (.loop a) st K := by
  refine vc_loop Sf31_i403_14 (Yf31_i403_14 a0 a1 a2 v8 v9) (Xf31_i403_14 a0 a1 a2 v8 v9) (Jf31_i403_14 a0 a1 a2 N v8 v9 k4 r) Prod.fst hz (kheadL (x := (fu, v14, b101''')) hF h0) ?_
  rintro ⟨_ | n, v14, b101'''⟩ hI
  · cases hI
  · exact h n v14 b101''' hI
theorem Mf31_i403_14 {r : Layout × Int} {a0 : Int} {a1 : Int} {a2 : List Kind} {N : Nat} {v8 : Int} {v9 : Int} {k4 : (List Choice) → Option (Layout × Int)} {n : Nat} {v14 : Int} {b101''' : List Choice} {v14_ : Int} {b101'''_ : List Choice} (hF : f31_i403_14 a0 a1 a2 N v8 v9 k4 n v14 b101''' = some r) (h0 : AtH Sf31_i403_14 st (Vf31_i403_14 a0 a1 a2 v8 v9 v14 b101''') (Bf31_i403_14 a0 a1 a2 v8 v9 v14 b101''')) : Kloop Sf31_i403_14 (Yf31_i403_14 a0 a1 a2 v8 v9) (Xf31_i403_14 a0 a1 a2 v8 v9) (Jf31_i403_14 a0 a1 a2 N v8 v9 k4 r) Prod.fst (n + 1, v14_, b101'''_) K .normal st := by
  exact kback (y := (n, v14, b101''')) hF (Nat.lt_succ_self n) h0
def f31_i403_c12 (a0 : Int) (a1 : Int) (a2 : List Kind) (N : Nat) (v8 : Int) (v9 : Int) (k3 : (List Choice) → Option (Layout × Int)) (b101'' : List Choice) : Option (Layout × Int) :=
 joinK (f31_i403_c17 a0 a1 a2 N v8 v9 k3) fun k4 =>
 f31_i403_14 a0 a1 a2 N v8 v9 k4 N (1 : Int) (b101'')
def Sf31_i403_c12 : Ann := ⟨[0, 1, 2, 7, 8, 9, 10], [0, 404000101, 404000806], [], []⟩
def Vf31_i403_c12 (a0 : Int) (a1 : Int) (a2 : List Kind) (v8 : Int) (v9 : Int) (b101'' : List Choice) : List SV := [.dat (iN a0), .dat (iN a1), .dat (sl_Kind a2), .ptr 404000101 0, .dat (iN v8), .dat (iN v9), .ptr 404000806 0]
def Bf31_i403_c12 (a0 : Int) (a1 : Int) (a2 : List Kind) (v8 : Int) (v9 : Int) (b101'' : List Choice) : List Blk := [.box [.dat (iN (0 : Int)), .dat (iN (0 : Int)), .nil], .arr (flatC Choice.d (b101'')), .box [.ptr 404000101 (0 + Int.toNat v8 * 65 + Int.toNat v9 * 5)]]
def Yf31_i403_c12 (a0 : Int) (a1 : Int) (a2 : List Kind) (v8 : Int) (v9 : Int) (y : (List Choice)) : List SV := Vf31_i403_c12 a0 a1 a2 v8 v9 y
def Xf31_i403_c12 (a0 : Int) (a1 : Int) (a2 : List Kind) (v8 : Int) (v9 : Int) (y : (List Choice)) : List Blk := Bf31_i403_c12 a0 a1 a2 v8 v9 y
def Jf31_i403_c12 (a0 : Int) (a1 : Int) (a2 : List Kind) (N : Nat) (v8 : Int) (v9 : Int) (k3 : (List Choice) → Option (Layout × Int)) (r : Layout × Int) (y : (List Choice)) : Prop := f31_i403_c12 a0 a1 a2 N v8 v9 k3 y = some r
theorem Cf31_i403_c12 {r : Layout × Int} {a0 : Int} {a1 : Int} {a2 : List Kind} {N : Nat} {v8 : Int} {v9 : Int} {k3 : (List Choice) → Option (Layout × Int)} {g : _ → Option (Layout × Int)} (hn : Nat.beq (nid * 1000 + firstRegion b) 404000000012 = true) (hz : Sf31_i403_c12.ok p = true) (h : g (f31_i403_c12 a0 a1 a2 N v8 v9 k3) = some r → vc c p nid a st (KHead Sf31_i403_c12 (Yf31_i403_c12 a0 a1 a2 v8 v9) (Xf31_i403_c12 a0 a1 a2 v8 v9) (Jf31_i403_c12 a0 a1 a2 N v8 v9 k3 r) K)) (h2 : ∀ (b101'' : List Choice), f31_i403_c12 a0 a1 a2 N v8 v9 k3 b101'' = some r → vc c p nid b (St.mk' Sf31_i403_c12 (Vf31_i403_c12 a0 a1 a2 v8 v9 b101'') (Bf31_i403_c12 a0 a1 a2 v8 v9 b101'')) K) (hF : joinK (f31_i403_c12 a0 a1 a2 N v8 v9 k3) g = some r) : vc c p nid (.seq a b) st K :=
  vc_cut Sf31_i403_c12 (Yf31_i403_c12 a0 a1 a2 v8 v9) (Xf31_i403_c12 a0 a1 a2 v8 v9) (Jf31_i403_c12 a0 a1 a2 N v8 v9 k3 r) hz (h hF) fun y hy => h2 y hy
theorem Zf31_i403_c12 {r : Layout × Int} {a0 : Int} {a1 : Int} {a2 : List Kind} {N : Nat} {v8 : Int} {v9 : Int} {k3 : (List Choice) → Option (Layout × Int)} {b101'' : List Choice} (hF : f31_i403_c12 a0 a1 a2 N v8 v9 k3 b101'' = some r) (h0 : AtH Sf31_i403_c12 st (Vf31_i403_c12 a0 a1 a2 v8 v9 b101'') (Bf31_i403_c12 a0 a1 a2 v8 v9 b101'')) : KHead Sf31_i403_c12 (Yf31_i403_c12 a0 a1 a2 v8 v9) (Xf31_i403_c12 a0 a1 a2 v8 v9) (Jf31_i403_c12 a0 a1 a2 N v8 v9 k3 r) K .normal st := by
  exact khead (I := (Jf31_i403_c12 a0 a1 a2 N v8 v9 k3 r)) (x := (b101'')) hF h0
def f31_i403_6b (r6 : Int → (List Choice) → Option (Layout × Int)) (a0 : Int) (a1 : Int) (a2 : List Kind) (N : Nat) (v8 : Int) (k2 : (List Choice) → Option (Layout × Int)) (v9 : Int) (b101' : List Choice) : Option (Layout × Int) :=
 bif decide (v9 ≤ a1) then (joinK (f31_i403_c7 a0 a1 a2 v8 v9 r6) fun k3 =>
 (chkI 13 v8).bind fun _ =>
 (chkI 13 v9).bind fun _ =>
 joinK (f31_i403_c12 a0 a1 a2 N v8 v9 k3) fun k5 =>
 (f49 N v8 v9 a2).bind fun x14 =>
 bif decide ((0 : Int) < x14.1) then ((setN (b101') (Int.toNat v8 * 13 + Int.toNat v9) (Choice.mk x14.1 (1 : Int) true (Cut.mk false (0 : Int)))).bind fun x15 =>
 k5 x15)
 else (k5 (b101')))
 else (k2 (b101'))
def f31_i403_6 (a0 : Int) (a1 : Int) (a2 : List Kind) (N : Nat) (v8 : Int) (k2 : (List Choice) → Option (Layout × Int)) : Nat → Int → (List Choice) → Option (Layout × Int)
  | 0, _, _ => none
  | n + 1, v9, b101' => f31_i403_6b (f31_i403_6 a0 a1 a2 N v8 k2 n) a0 a1 a2 N v8 k2 v9 b101'
def Sf31_i403_6 : Ann := ⟨[0, 1, 2, 7, 8, 9], [0, 404000101], [], []⟩
def Vf31_i403_6 (a0 : Int) (a1 : Int) (a2 : List Kind) (v8 : Int) (v9 : Int) (b101' : List Choice) : List SV := [.dat (iN a0), .dat (iN a1), .dat (sl_Kind a2), .ptr 404000101 0, .dat (iN v8), .dat (iN v9)]
def Bf31_i403_6 (a0 : Int) (a1 : Int) (a2 : List Kind) (v8 : Int) (v9 : Int) (b101' : List Choice) : List Blk := [.box [.dat (iN (0 : Int)), .dat (iN (0 : Int)), .nil], .arr (flatC Choice.d (b101'))]
def Yf31_i403_6 (a0 : Int) (a1 : Int) (a2 : List Kind) (v8 : Int) (y : Nat × Int × (List Choice)) : List SV := Vf31_i403_6 a0 a1 a2 v8 y.2.1 y.2.2
def Xf31_i403_6 (a0 : Int) (a1 : Int) (a2 : List Kind) (v8 : Int) (y : Nat × Int × (List Choice)) : List Blk := Bf31_i403_6 a0 a1 a2 v8 y.2.1 y.2.2
def Jf31_i403_6 (a0 : Int) (a1 : Int) (a2 : List Kind) (N : Nat) (v8 : Int) (k2 : (List Choice) → Option (Layout × Int)) (r : Layout × Int) (y : Nat × Int × (List Choice)) : Prop := f31_i403_6 a0 a1 a2 N v8 k2 y.1 y.2.1 y.2.2 = some r
theorem Lf31_i403_6 {r : Layout × Int} {a0 : Int} {a1 : Int} {a2 : List Kind} {N : Nat} {v8 : Int} {k2 : (List Choice) → Option (Layout × Int)} {fu : Nat} {v9 : Int} {b101' : List Choice} (hz : Sf31_i403_6.ok p = true) (h0 : AtH Sf31_i403_6 st (Vf31_i403_6 a0 a1 a2 v8 v9 b101') (Bf31_i403_6 a0 a1 a2 v8 v9 b101')) (h : ∀ (n : Nat) (v9 : Int) (b101' : List Choice), f31_i403_6b (f31_i403_6 a0 a1 a2 N v8 k2 n) a0 a1 a2 N v8 k2 v9 b101' = some r → vc c p nid a (St.mk' Sf31_i403_6 (Vf31_i403_6 a0 a1 a2 v8 v9 b101') (Bf31_i403_6 a0 a1 a2 v8 v9 b101')) (Kloop Sf31_i403_6 (Yf31_i403_6 a0 a1 a2 v8) (Xf31_i403_6 a0 a1 a2 v8) (Jf31_i403_6 a0 a1 a2 N v8 k2 r) Prod.fst (n + 1, v9, b101') K)) (hF : f31_i403_6 a0 a1 a2 N v8 k2 fu v9 b101' = some r) : vc c p nid (.loop a) st K := by
  refine vc_loop Sf31_i403_6 (Yf31_i403_6 a0 a1 a2 v8) (Xf31_i403_6 a0 a1 a2 v8) (Jf31_i403_6 a0 a1 a2 N v8 k2 r) Prod.fst hz (kheadL (x := (fu, v9, b101')) hF h0) ?_
  rintro ⟨_ | n, v9, b101'⟩ hI
  · cases hI
  · exact h n v9 b101' hI
theorem Mf31_i403_6 {r : Layout × Int} {a0 : Int} {a1 : Int} {a2 : List Kind} {N : Nat} {v8 : Int} {k2 : (List Choice) → Option (Layout × Int)} {n : Nat} {v9 : Int} {b101' : List Choice} {v9_ : Int} {b101'_ : List Choice} (hF : f31_i403_6 a0 a1 a2 N v8 k2 n v9 b101' = some r) (h0 : AtH Sf31_i403_6 st (Vf31_i403_6 a0 a1 a2 v8 v9 b101') (Bf31_i403_6 a0 a1 a2 v8 v9 b101')) : Kloop Sf31_i403_6 (Yf31_i403_6 a0 a1 a2 v8) (Xf31_i403_6 a0 a1 a2 v8) (Jf31_i403_6 a0 a1 a2 N v8 k2 r) Prod.fst (n + 1, v9_, b101'_) K .normal st := by
  exact kback (y := (n, v9, b101')) hF (Nat.lt_succ_self n) h0
def f31_i403_3b (r3 : Int → (List Choice) → Option (Layout × Int)) (a0 : Int) (a1 : Int) (a2 : List Kind) (N : Nat) (k1 : (List Choice) → Option (Layout × Int)) (v8 : Int) (b101 : List Choice) : Option (Layout × Int) :=
 bif decide (v8 ≤ a0) then (joinK (f31_i403_c4 a0 a1 a2 v8 r3) fun k2 =>
 f31_i403_6 a0 a1 a2 N v8 k2 N (1 : Int) b101)
 else (k1 b101)
def f31_i403_3 (a0 : Int) (a1 : Int) (a2 : List Kind) (N : Nat) (k1 : (List Choice) → Option (Layout × Int)) : Nat → Int → (List Choice) → Option (Layout × Int)
  | 0, _, _ => none
  | n + 1, v8, b101 => f31_i403_3b (f31_i403_3 a0 a1 a2 N k1 n) a0 a1 a2 N k1 v8 b101
def Sf31_i403_3 : Ann := ⟨[0, 1, 2, 7, 8], [0, 404000101], [], []⟩
def Vf31_i403_3 (a0 : Int) (a1 : Int) (a2 : List Kind) (v8 : Int) (b101 : List Choice) : List SV := [.dat (iN a0), .dat (iN a1), .dat (sl_Kind a2), .ptr 404000101 0, .dat (iN v8)]
def Bf31_i403_3 (a0 : Int) (a1 : Int) (a2 : List Kind) (v8 : Int) (b101 : List Choice) : List Blk := [.box [.dat (iN (0 : Int)), .dat (iN (0 : Int)), .nil], .arr (flatC Choice.d b101)]
def Yf31_i403_3 (a0 : Int) (a1 : Int) (a2 : List Kind) (y : Nat × Int × (List Choice)) : List SV := Vf31_i403_3 a0 a1 a2 y.2.1 y.2.2
def Xf31_i403_3 (a0 : Int) (a1 : Int) (a2 : List Kind) (y : Nat × Int × (List Choice)) : List Blk := Bf31_i403_3 a0 a1 a2 y.2.1 y.2.2
def Jf31_i403_3 (a0 : Int) (a1 : Int) (a2 : List Kind) (N : Nat) (k1 : (List Choice) → Option (Layout × Int)) (r : Layout × Int) (y : Nat × Int × (List Choice)) : Prop := f31_i403_3 a0 a1 a2 N k1 y.1 y.2.1 y.2.2 = some r
theorem Lf31_i403_3 {r : Layout × Int} {a0 : Int} {a1 : Int} {a2 : List Kind} {N : Nat} {k1 : (List Choice) → Option (Layout × Int)} {fu : Nat} {v8 : Int} {b101 : List Choice} (hz : Sf31_i403_3.ok p = true) (h0 : AtH Sf31_i403_3 st (Vf31_i403_3 a0 a1 a2 v8 b101) (Bf31_i403_3 a0 a1 a2 v8 b101)) (h : ∀ (n : Nat) (v8 : Int) (b101 : List Choice), f31_i403_3b (f31_i403_3 a0 a1 a2 N k1 n) a0 a1 a2 N k1 v8 b101 = some r → vc c p nid a (St.mk' Sf31_i403_3 (Vf31_i403_3 a0 a1 a2 v8 b101) (Bf31_i403_3 a0 a1 a2 v8 b101)) (Kloop Sf31_i403_3 (Yf31_i403_3 a0 a1 a2) (Xf31_i403_3 a0 a1 a2) (Jf31_i403_3 a0 a1 a2 N k1 r) Prod.fst (n + 1, v8, b101) K)) (hF : f31_i403_3 a0 a1 a2 N k1 fu v8 b101 = some r) : vc c p nid (.loop a) st K := by
  refine vc_loop Sf31_i403_3 (Yf31_i403_3 a0 a1 a2) (Xf31_i403_3 a0 a1 a2) (Jf31_i403_3 a0 a1 a2 N k1 r) Prod.fst hz (kheadL (x := (fu, v8, b101)) hF h0) ?_
  rintro ⟨_ | n, v8, b101⟩ hI
  · cases hI
  · exact h n v8 b101 hI
theorem Mf31_i403_3 {r : Layout × Int} {a0 : Int} {a1 : Int} {a2 : List Kind} {N : Nat} {k1 : (List Choice) → Option (Layout × Int)} {n : Nat} {v8 : Int} {b101 : List Choice} {v8_ : Int} {b101_ : List Choice} (hF : f31_i403_3 a0 a1 a2 N k1 n v8 b101 = some r) (h0 : AtH Sf31_i403_3 st (Vf31_i403_3 a0 a1 a2 v8 b101) (Bf31_i403_3 a0 a1 a2 v8 b101)) : Kloop Sf31_i403_3 (Yf31_i403_3 a0 a1 a2) (Xf31_i403_3 a0 a1 a2) (Jf31_i403_3 a0 a1 a2 N k1 r) Prod.fst (n + 1, v8_, b101_) K .normal st := by
  exact kback (y := (n, v8, b101)) hF (Nat.lt_succ_self n) h0
def f31 (N : Nat) (a0 : Int) (a1 : Int) (a2 : List Kind) : Option (Layout × Int) :=
 (f66 N a0 a1 a2).bind fun x1 =>
 bif decide (¬ x1 = (0 : Int)) then (some ((Layout.mk (0 : Int) (0 : Int) []), x1))
 else (joinK (f31_i403_c21 a0 a1 N) fun k1 =>
 f31_i403_3 a0 a1 a2 N k1 N (1 : Int) (List.replicate 169 (Choice.mk (0 : Int) (0 : Int) false (Cut.mk false (0 : Int)))))
def G31 (ds : List D) (d : D) : Prop := ∃ (N : Nat) (a0 : Int) (a1 : Int) (a2 : List Kind) (r : Layout × Int), ds = [iN a0, iN a1, sl_Kind a2] ∧ f31 N a0 a1 a2 = some r ∧ d = .tup [Layout.d r.1, iN r.2]
theorem G31.step {N : Nat} {a0 : Int} {a1 : Int} {a2 : List Kind} {ρ : Type} {A : (Layout × Int) → Option ρ} {q : ρ} {ds : List D} {K : D → Prop} (hd : ds = [iN a0, iN a1, sl_Kind a2]) (h : ∀ r, A r = some q → K (.tup [Layout.d r.1, iN r.2])) (hF : (f31 N a0 a1 a2).bind A = some q) : ∃ d, G31 ds d ∧ K d := by
  obtain ⟨r, hr, hA⟩ := bind_some hF
  exact ⟨_, ⟨N, a0, a1, a2, r, hd, hr, rfl⟩, h r hA⟩
set_option maxRecDepth 20000 in
set_option maxHeartbeats 4000000 in
theorem P31 : PureOK Try.prog 31 G31 := by
  refine pure_of_vc (c := mkCtx tyTree [(67, false, inlPg (mkCtx tyTree [(74, false, inlPg (mkCtx tyTree [(75, true, purePg [[0, 0, 0, 0, 0], [0, 0, 0, 0, 0]] G75)]) Try.f74), (49, true, purePg [[0], [0], [3]] G49)]) Try.f67), (68, false, effPg Spf68 G68), (66, true, purePg [[0], [0], [3]] G66)]) rfl tyOK (ctx_eff (callable Try.func67 rfl rfl) (CallOK.inl rfl tyOK (ctx_eff (callable Try.func74 rfl rfl) (CallOK.inl rfl tyOK (ctx_cons (callable Try.func75 rfl rfl) P75 (ctx_nil)) Try.func74 (by kernel_rfl)) (ctx_cons (callable Try.func49 rfl rfl) P49 (ctx_nil))) Try.func67 (by kernel_rfl)) (ctx_eff (callable Try.func68 rfl rfl) P68 (ctx_cons (callable Try.func66 rfl rfl) P66 (ctx_nil)))) [[0, 0, 4], [0]] 3 Try.func31 rfl rfl (by decide) (by kernel_rfl) ?_
  rintro ds d ⟨N, a0, a1, a2, r, rfl, hF, rfl⟩ hok
  clear hok
  refine ⟨rfl, ?_⟩
  show vc _ _ _ _ ⟨[(0, .dat (iN a0)), (1, .dat (iN a1)), (2, .dat (sl_Kind a2))], []⟩ _
  unfold f31 at hF
  repeat' (first
    | ((with_reducible refine q0 _ _ ?_); clear Q q0 q1 q2)
    | ((with_reducible refine q1 _ _ _ _ ?_); clear Q q0 q1 q2)
    | ((with_reducible refine q2 _ _ _ ?_); clear Q q0 q1 q2)
    | ((with_reducible refine seq_op ?hx (fun Q q0 q1 q2 => ?_)); (case hx => exact rfl); conv => whnf)
    | ((with_reducible refine draw_op ?hx (fun Q q0 q1 q2 => ?_)); (case hx => exact rfl); conv => whnf)
    | ((with_reducible refine seq_op0 ?hx (fun Q q0 q1 q2 => ?_)); (case hx => exact rfl); conv => whnf)
    | ((with_reducible refine draw_op0 ?hx (fun Q q0 q1 q2 => ?_)); (case hx => exact rfl); conv => whnf)
    | ((with_reducible refine cond_id ?_); (first | ((refine condKT rfl ?hy ?_); (case hy => first | assumption | exact notT (by assumption) | exact rfl)) | ((refine condKF rfl ?hy ?_); (case hy => first | assumption | exact notF (by assumption) | exact rfl)) | (revert hF; (with_reducible refine condF ?hx ?_ ?_); (case hx => exact rfl); all_goals (intro hc hF))))
    | ((with_reducible refine seq_nil ?_); (first | ((with_reducible refine hR _ ?_); clear R hR) | ((with_reducible refine hL _ ?_); clear L hL)))
    | ((with_reducible refine draw_nil ?_); (with_reducible refine hR _ _ ?hx ?_); (case hx => kernel_rfl); (first | clear R hR | clear hR))
    | ((with_reducible refine int_step ?_); conv => whnf)
    | ((with_reducible refine len_step ?_); conv => whnf)
    | with_reducible refine vc_block ?_
    | with_reducible refine vc_skip ?_
    | with_reducible refine vc_ret ?_
    | with_reducible refine vc_exit ?_
    | ((with_reducible refine vc_seqN [10, 404000000021, 404000000004, 404000000007, 404000000017, 404000000012] ?hx ?_); (case hx => exact rfl))
    | (with_reducible refine vc_region (fun R hR => ?_))
    | ((with_reducible refine vc_draw ?hx (fun R hR => ?_)); (case hx => exact rfl))
    | ((with_reducible refine vc_tail (n := 4) ?hx ?hn rfl rfl (fun R L hL hR => ?_)); (case hx => kernel_rfl); (case hn => exact rfl); simp only [List.take_succ_cons, List.take_zero, List.drop_succ_cons, List.drop_zero] at hR ⊢)
    | ((with_reducible refine vc_tail (n := 19) ?hx ?hn rfl rfl (fun R L hL hR => ?_)); (case hx => kernel_rfl); (case hn => exact rfl); simp only [List.take_succ_cons, List.take_zero, List.drop_succ_cons, List.drop_zero] at hR ⊢)
    | (revert hF; (refine Cf31_c10 rfl rfl ?_ ?_); (intro hF); rotate_left; (intro b703_2 hF; unfold f31_c10 at hF); rotate_right)
    | exact Zf31_c10 hF ⟨_, rfl, rfl, rfl, rfl⟩ (by first | exact rfl | assumption | omega)
    | (revert hF; (refine Cf31_i403_c21 rfl rfl ?_ ?_); (intro hF); rotate_left; (intro b101 hF; unfold f31_i403_c21 at hF); rotate_right)
    | exact Zf31_i403_c21 hF ⟨_, rfl, rfl, rfl, rfl⟩
    | (revert hF; (refine Cf31_i403_c4 rfl rfl ?_ ?_); (intro hF); rotate_left; (intro b101' hF; unfold f31_i403_c4 at hF); rotate_right)
    | exact Zf31_i403_c4 hF ⟨_, rfl, rfl, rfl, rfl⟩
    | (revert hF; (refine Cf31_i403_c7 rfl rfl ?_ ?_); (intro hF); rotate_left; (intro b101'' hF; unfold f31_i403_c7 at hF); rotate_right)
    | exact Zf31_i403_c7 hF ⟨_, rfl, rfl, rfl, rfl⟩
    | (revert hF; (refine Lf31_i403_18 rfl ⟨_, rfl, rfl, rfl, rfl⟩ ?_); intro n v15 b101'''' hF; unfold f31_i403_18b at hF)
    | exact Mf31_i403_18 hF ⟨_, rfl, rfl, rfl, rfl⟩
    | (revert hF; (refine Cf31_i403_c17 rfl rfl ?_ ?_); (intro hF); rotate_left; (intro b101''' hF; unfold f31_i403_c17 at hF); rotate_right)
    | exact Zf31_i403_c17 hF ⟨_, rfl, rfl, rfl, rfl⟩
    | (revert hF; (refine Lf31_i403_14 rfl ⟨_, rfl, rfl, rfl, rfl⟩ ?_); intro n v14 b101''' hF; unfold f31_i403_14b at hF)
    | exact Mf31_i403_14 hF ⟨_, rfl, rfl, rfl, rfl⟩
    | (revert hF; (refine Cf31_i403_c12 rfl rfl ?_ ?_); (intro hF); rotate_left; (intro b101'' hF; unfold f31_i403_c12 at hF); rotate_right)
    | exact Zf31_i403_c12 hF ⟨_, rfl, rfl, rfl, rfl⟩
    | (revert hF; (refine Lf31_i403_6 rfl ⟨_, rfl, rfl, rfl, rfl⟩ ?_); intro n v9 b101' hF; unfold f31_i403_6b at hF)
    | exact Mf31_i403_6 hF ⟨_, rfl, rfl, rfl, rfl⟩
    | (revert hF; (refine Lf31_i403_3 rfl ⟨_, rfl, rfl, rfl, rfl⟩ ?_); intro n v8 b101 hF; unfold f31_i403_3b at hF)
    | exact Mf31_i403_3 hF ⟨_, rfl, rfl, rfl, rfl⟩
    | (revert hF; (with_reducible refine G49.step ?hx ?_); (case hx => exact rfl); intro v hF; conv => whnf)
    | (revert hF; (with_reducible refine G66.step ?hx ?_); (case hx => exact rfl); intro v hF; conv => whnf)
    | (revert hF; (with_reducible refine G75.step ?hx ?_); (case hx => exact rfl); intro v hF; conv => whnf)
    | (revert hF; (refine G68.step rfl rfl rfl rfl rfl rfl rfl ?hn ?_); (case hn => exact rfl); intro v hF; conv => whnf)
    | ((with_reducible refine zeroA_step (flatC Choice.d (List.replicate 169 (Choice.mk (0 : Int) (0 : Int) false (Cut.mk false (0 : Int))))) ?hx ?_); (case hx => exact ⟨by kernel_rfl, by kernel_rfl⟩); conv => whnf)
    | ((with_reducible refine zeroD_step (flatC Choice.d (List.replicate 169 (Choice.mk (0 : Int) (0 : Int) false (Cut.mk false (0 : Int))))) ?hx ?_); (case hx => (unfold zeroD; kernel_rfl)); conv => whnf)
    | ((with_reducible refine chkI_go hF ?_); (clear hF; intro hF; conv => whnf))
    | ((with_reducible have hG := ixN_fact hF); clear hF; (first | (refine ixN_one hG (by (try simp only [W]); omega) (fun x hF => ?_)) | (refine ixN_agg hG (fun _ => rfl) (by (try simp only [W]); omega) (fun x hF => ?_)) | (refine ixN_field (s := 5) (f := 1) (fun x => iN x.labels) hG (fun _ => rfl) (fun _ => rfl) (by (try simp only [W]); omega) (fun x hF => ?_))); clear hG; conv => whnf)
    | ((with_reducible have hG := setN_fact hF); clear hF; (first | (refine setN_one hG (by (try simp only [W]); omega) rfl rfl (fun q hF => ?_)) | (refine setN_agg hG (fun _ => rfl) (by (try simp only [W]); omega) rfl rfl (fun q hF => ?_))); clear hG; conv => whnf)
    | with_reducible refine k_seq_ret ?_
    | with_reducible refine k_seq_exit ?_
    | with_reducible refine k_blk ?_
    | with_reducible refine k_blk_ret ?_
    | with_reducible refine k_blk_here ?_
    | ((with_reducible refine k_blk_out ?hx ?_); (case hx => exact rfl))
    | with_reducible refine k_loop_ret ?_
    | with_reducible refine k_loop_exit ?_
    | ((refine row_all ?hn ?_); (case hn => first | exact rfl | (simp; done) | (simp; omega)); conv => whnf)
    | ((with_reducible refine le_step ?hn ?_); (case hn => first | exact rfl | assumption | omega); conv => whnf)
    | ((refine ⟨?hx, ?_⟩); (case hx => exact ⟨rfl, Nat.le_of_ble_eq_true rfl, rfl⟩); conv => whnf)
    | ((with_reducible refine ex_step ?_); conv => whnf)
    | ((with_reducible refine both_T ?hx ?_); (case hx => first | exact rfl | assumption | exact notT (by assumption)); conv => whnf)
    | ((with_reducible refine both_F ?hx ?_); (case hx => first | exact rfl | assumption | exact notF (by assumption)); conv => whnf)
    | (revert hF; (with_reducible refine ite_step ?_ ?_) <;> (intro hc hF; conv => whnf))
    | ((with_reducible refine vc_condT ?hx ?_); (case hx => exact rfl))
    | ((with_reducible refine vc_condF ?hx ?_); (case hx => exact rfl))
    | (show retD _ _ _ _ _ _; conv => whnf)
    | ((refine inl_step ?ha ?hb ?hc rfl ?_); (case ha => exact rfl); (case hb => omega); (case hc => exact Nat.le_of_ble_eq_true rfl))
    | (show Kinl _ _ _ _ _ _ _; conv => whnf)
    | ((with_reducible refine kinl_step ?ha ?hb ?_); (case ha => exact rfl); (case hb => exact rfl); conv => whnf)
    | ((refine ⟨?hx, trivial⟩); (case hx => (cases hF; exact rfl)))
    | ((refine ⟨?hx, ?_⟩); (case hx => decide); conv => whnf)
    | ((with_reducible refine k_seq ?_))
    | (have hF : (none : Option _) = some _ := hF; cases hF))
end
end Go.Vc
namespace Go.Vc
open Go.Proofs
set_option linter.unusedVariables false
set_option linter.unnecessarySimpa false
set_option linter.unusedSimpArgs false
section
variable {c : Ctx} {p nid : Nat} {a b : Code} {st : St} {K : Ex → St → Prop}
/- f42: tusche/tuschelaw06.labels -/
def f42_c6 (out3 : List Label) : Option ((List Label)) :=
 some (out3)
def Sf42_c6 : Ann := ⟨[3], [90003], [(.slot 3, 90003, 50, 4)], []⟩
def Vf42_c6 (out3 : List Label) : List SV := [.rs 90003 (List.length out3)]
def Bf42_c6 (out3 : List Label) : List Blk := [.row 50 4 (List.map Label.d out3)]
def Yf42_c6 (y : (List Label)) : List SV := Vf42_c6 y
def Xf42_c6 (y : (List Label)) : List Blk := Bf42_c6 y
def Jf42_c6 (r : (List Label)) (y : (List Label)) : Prop := f42_c6 y = some r
def V2f42_c6 (out3 : List Label) (m0 : Nat) : List SV := [.rs 90003 m0]
def B2f42_c6 (out3 : List Label) (m0 : Nat) : List Blk := [.row 50 4 (List.map Label.d out3)]
theorem Cf42_c6 {r : (List Label)} {g : _ → Option ((List Label))} (hn : Nat.beq (nid * 1000 + firstRegion b) 6 = true) (hz : Sf42_c6.ok p = true) (h : g f42_c6 = some r → vc c p nid a st (KHead Sf42_c6 Yf42_c6 Xf42_c6 (Jf42_c6 r) K)) (h2 : ∀ (out3 : List Label), f42_c6 out3 = some r → vc c p nid b (St.mk' Sf42_c6 (Vf42_c6 out3) (Bf42_c6 out3)) K) (hF : joinK f42_c6 g = some r) : vc c p nid (.seq a b) st K :=
  vc_cut Sf42_c6 Yf42_c6 Xf42_c6 (Jf42_c6 r) hz (h hF) fun y hy => h2 y hy
theorem Zf42_c6 {r : (List Label)} {out3 : List Label} {m0 : Nat} (hF : f42_c6 out3 = some r) (h0 : AtH Sf42_c6 st (V2f42_c6 out3 m0) (B2f42_c6 out3 m0)) (em0 : m0 = List.length out3) : KHead Sf42_c6 Yf42_c6 Xf42_c6 (Jf42_c6 r) K .normal st := by
  subst em0; exact khead (I := (Jf42_c6 r)) (x := (out3)) hF h0
def f42_3b (r3 : (List Label) → Int → Option ((List Label))) (a0 : List Int) (k0 : (List Label) → Option ((List Label))) (out3 : List Label) (i4 : Int) : Option ((List Label)) :=
 bif decide ((W (i4 + (3 : Int))) < (List.length a0 : Int)) then ((ix a0 i4).bind fun x1 =>
 (ix a0 (W (i4 + (1 : Int)))).bind fun x2 =>
 (ix a0 (W (i4 + (2 : Int)))).bind fun x3 =>
 (ix a0 (W (i4 + (3 : Int)))).bind fun x4 =>
 (app 32 out3 [(Label.mk x1 x2 x3 x4)]).bind fun x5 =>
 r3 x5 (W (i4 + (4 : Int))))
 else (k0 out3)
def f42_3 (a0 : List Int) (k0 : (List Label) → Option ((List Label))) : Nat → (List Label) → Int → Option ((List Label))
  | 0, _, _ => none
  | n + 1, out3, i4 => f42_3b (f42_3 a0 k0 n) a0 k0 out3 i4
def Sf42_3 : Ann := ⟨[0, 3, 4], [90003], [(.slot 3, 90003, 50, 4)], []⟩
def Vf42_3 (a0 : List Int) (out3 : List Label) (i4 : Int) : List SV := [.dat (sl_iN a0), .rs 90003 (List.length out3), .dat (iN i4)]
def Bf42_3 (a0 : List Int) (out3 : List Label) (i4 : Int) : List Blk := [.row 50 4 (List.map Label.d out3)]
def Yf42_3 (a0 : List Int) (y : Nat × (List Label) × Int) : List SV := Vf42_3 a0 y.2.1 y.2.2
def Xf42_3 (a0 : List Int) (y : Nat × (List Label) × Int) : List Blk := Bf42_3 a0 y.2.1 y.2.2
def Jf42_3 (a0 : List Int) (k0 : (List Label) → Option ((List Label))) (r : (List Label)) (y : Nat × (List Label) × Int) : Prop := f42_3 a0 k0 y.1 y.2.1 y.2.2 = some r
def V2f42_3 (a0 : List Int) (out3 : List Label) (i4 : Int) (m0 : Nat) : List SV := [.dat (sl_iN a0), .rs 90003 m0, .dat (iN i4)]
def B2f42_3 (a0 : List Int) (out3 : List Label) (i4 : Int) (m0 : Nat) : List Blk := [.row 50 4 (List.map Label.d out3)]
theorem Lf42_3 {r : (List Label)} {a0 : List Int} {k0 : (List Label) → Option ((List Label))} {fu : Nat} {out3 : List Label} {i4 : Int} {m0 : Nat} (hz : Sf42_3.ok p = true) (h0 : AtH Sf42_3 st (V2f42_3 a0 out3 i4 m0) (B2f42_3 a0 out3 i4 m0)) (em0 : m0 = List.length out3) (h : ∀ (n : Nat) (out3 : List Label) (i4 : Int), f42_3b (f42_3 a0 k0 n) a0 k0 out3 i4 = some r → vc c p nid a (St.mk' Sf42_3 (Vf42_3 a0 out3 i4) (Bf42_3 a0 out3 i4)) (Kloop Sf42_3 (Yf42_3 a0) (Xf42_3 a0) (Jf42_3 a0 k0 r) Prod.fst (n + 1, out3, i4) K)) (hF : f42_3 a0 k0 fu out3 i4 = some r) : vc c p nid (.loop a) st K := by
  subst em0; refine vc_loop Sf42_3 (Yf42_3 a0) (Xf42_3 a0) (Jf42_3 a0 k0 r) Prod.fst hz (kheadL (x := (fu, out3, i4)) hF h0) ?_
  rintro ⟨_ | n, out3, i4⟩ hI
  · cases hI
  · exact h n out3 i4 hI
theorem Mf42_3 {r : (List Label)} {a0 : List Int} {k0 : (List Label) → Option ((List Label))} {n : Nat} {out3 : List Label} {i4 : Int} {out3_ : List Label} {i4_ : Int} {m0 : Nat} (hF : f42_3 a0 k0 n out3 i4 = some r) (h0 : AtH Sf42_3 st (V2f42_3 a0 out3 i4 m0) (B2f42_3 a0 out3 i4 m0)) (em0 : m0 = List.length out3) : Kloop Sf42_3 (Yf42_3 a0) (Xf42_3 a0) (Jf42_3 a0 k0 r) Prod.fst (n + 1, out3_, i4_) K .normal st := by
  subst em0; exact kback (y := (n, out3, i4)) hF (Nat.lt_succ_self n) h0
def f42 (N : Nat) (a0 : List Int) : Option ((List Label)) :=
 joinK f42_c6 fun k0 =>
 f42_3 a0 k0 N [] (0 : Int)
def G42 (ds : List D) (d : D) : Prop := ∃ (N : Nat) (a0 : List Int) (r : (List Label)), ds = [sl_iN a0] ∧ f42 N a0 = some r ∧ d = sl_Label r
theorem G42.step {N : Nat} {a0 : List Int} {ρ : Type} {A : (List Label) → Option ρ} {q : ρ} {ds : List D} {K : D → Prop} (hd : ds = [sl_iN a0]) (h : ∀ r, A r = some q → K (sl_Label r)) (hF : (f42 N a0).bind A = some q) : ∃ d, G42 ds d ∧ K d := by
  obtain ⟨r, hr, hA⟩ := bind_some hF
  exact ⟨_, ⟨N, a0, r, hd, hr, rfl⟩, h r hA⟩
set_option maxRecDepth 20000 in
set_option maxHeartbeats 4000000 in
theorem P42 : PureOK Try.prog 42 G42 := by
  refine pure_of_vc (c := mkCtx tyTree []) rfl tyOK (ctx_nil) [[4]] 1 Try.func42 rfl rfl (by decide) (by kernel_rfl) ?_
  rintro ds d ⟨N, a0, r, rfl, hF, rfl⟩ hok
  clear hok
  refine ⟨rfl, ?_⟩
  show vc _ _ _ _ ⟨[(0, .dat (sl_iN a0))], []⟩ _
  unfold f42 at hF
  repeat' (first
    | ((with_reducible refine q0 _ _ ?_); clear Q q0 q1 q2)
    | ((with_reducible refine q1 _ _ _ _ ?_); clear Q q0 q1 q2)
    | ((with_reducible refine q2 _ _ _ ?_); clear Q q0 q1 q2)
    | ((with_reducible refine seq_op ?hx (fun Q q0 q1 q2 => ?_)); (case hx => exact rfl); conv => whnf)
    | ((with_reducible refine draw_op ?hx (fun Q q0 q1 q2 => ?_)); (case hx => exact rfl); conv => whnf)
    | ((with_reducible refine cond_id ?_); (first | ((refine condKT rfl ?hy ?_); (case hy => first | assumption | exact notT (by assumption) | exact rfl)) | ((refine condKF rfl ?hy ?_); (case hy => first | assumption | exact notF (by assumption) | exact rfl)) | (revert hF; (with_reducible refine condF ?hx ?_ ?_); (case hx => exact rfl); all_goals (intro hc hF))))
    | ((with_reducible refine seq_nil ?_); (first | ((with_reducible refine hR _ ?_); clear R hR) | ((with_reducible refine hL _ ?_); clear L hL)))
    | ((with_reducible refine draw_nil ?_); (with_reducible refine hR _ _ ?hx ?_); (case hx => kernel_rfl); (first | clear R hR | clear hR))
    | ((with_reducible refine int_step ?_); conv => whnf)
    | ((with_reducible refine len_step ?_); conv => whnf)
    | ((with_reducible refine idx2 (by assumption) ?_); conv => whnf)
    | ((with_reducible refine idx3 (by assumption) ?_); conv => whnf)
    | with_reducible refine vc_block ?_
    | with_reducible refine vc_skip ?_
    | with_reducible refine vc_ret ?_
    | with_reducible refine vc_exit ?_
    | ((with_reducible refine vc_seqN [6] ?hx ?_); (case hx => exact rfl))
    | (with_reducible refine vc_region (fun R hR => ?_))
    | ((with_reducible refine vc_draw ?hx (fun R hR => ?_)); (case hx => exact rfl))
    | fail
    | (revert hF; (refine Cf42_c6 rfl rfl ?_ ?_); (intro hF); rotate_left; (intro out3 hF; unfold f42_c6 at hF); rotate_right)
    | exact Zf42_c6 hF ⟨_, rfl, rfl, rfl, rfl⟩ (by first | exact rfl | assumption | omega)
    | (revert hF; (refine Lf42_3 rfl ⟨_, rfl, rfl, rfl, rfl⟩ (by first | exact rfl | assumption | omega) ?_); intro n out3 i4 hF; unfold f42_3b at hF)
    | exact Mf42_3 hF ⟨_, rfl, rfl, rfl, rfl⟩ (by first | exact rfl | assumption | omega)
    | with_reducible refine k_seq_ret ?_
    | with_reducible refine k_seq_exit ?_
    | with_reducible refine k_blk ?_
    | with_reducible refine k_blk_ret ?_
    | with_reducible refine k_blk_here ?_
    | ((with_reducible refine k_blk_out ?hx ?_); (case hx => exact rfl))
    | with_reducible refine k_loop_ret ?_
    | with_reducible refine k_loop_exit ?_
    | (revert hF; (with_reducible refine idx1 ?hn ?_); (case hn => first | exact rfl | exact (List.length_map _) | assumption | omega | simp); intro x hx hF; conv => whnf)
    | ((with_reducible have hG := app_fact hF); clear hF; (first | ((refine app_row hG ?hn ?hs (fun q hF => ?_)); (case hn => first | exact rfl | assumption | omega); (case hs => exact rfl)) | ((refine app_nil (d := Label.d) hG ?hs (fun q hF => ?_)); (case hs => exact rfl)) | ((refine app_gen (d := Label.d) hG ?ho ?hn ?hs (fun q hF => ?_)); (case ho => exact rfl); (case hn => exact rfl); (case hs => exact rfl))); clear hG; conv => whnf)
    | ((refine row_all ?hn ?_); (case hn => first | exact rfl | (simp; done) | (simp; omega)); conv => whnf)
    | ((with_reducible refine le_step ?hn ?_); (case hn => first | exact rfl | assumption | omega); conv => whnf)
    | ((refine ⟨?hx, ?_⟩); (case hx => exact ⟨rfl, Nat.le_of_ble_eq_true rfl, rfl⟩); conv => whnf)
    | ((with_reducible refine ex_step ?_); conv => whnf)
    | ((with_reducible refine both_T ?hx ?_); (case hx => first | exact rfl | assumption | exact notT (by assumption)); conv => whnf)
    | ((with_reducible refine both_F ?hx ?_); (case hx => first | exact rfl | assumption | exact notF (by assumption)); conv => whnf)
    | (revert hF; (with_reducible refine ite_step ?_ ?_) <;> (intro hc hF; conv => whnf))
    | ((with_reducible refine vc_condT ?hx ?_); (case hx => exact rfl))
    | ((with_reducible refine vc_condF ?hx ?_); (case hx => exact rfl))
    | (show retD _ _ _ _ _ _; conv => whnf)
    | ((refine ⟨?hx, trivial⟩); (case hx => (cases hF; exact rfl)))
    | ((refine ⟨?hx, ?_⟩); (case hx => decide); conv => whnf)
    | ((with_reducible refine k_seq ?_))
    | (have hF : (none : Option _) = some _ := hF; cases hF))
end
end Go.Vc
namespace Go.Vc
open Go.Proofs
set_option linter.unusedVariables false
set_option linter.unnecessarySimpa false
set_option linter.unusedSimpArgs false
section
variable {c : Ctx} {p nid : Nat} {a b : Code} {st : St} {K : Ex → St → Prop}
/- f39: tusche/tuschelaw06.M -/
def f39 (N : Nat) : Option (Layout) :=
 (f42 N [(0 : Int), (0 : Int), (2 : Int), (1 : Int), (2 : Int), (0 : Int), (1 : Int), (2 : Int), (1 : Int), (2 : Int), (2 : Int), (1 : Int), (0 : Int), (1 : Int), (1 : Int), (2 : Int), (1 : Int), (1 : Int), (1 : Int), (1 : Int)]).bind fun x1 =>
 some ((Layout.mk (3 : Int) (3 : Int) x1))
def G39 (ds : List D) (d : D) : Prop := ∃ (N : Nat) (r : Layout), ds = [] ∧ f39 N  = some r ∧ d = Layout.d r
theorem G39.step {N : Nat} {ρ : Type} {A : Layout → Option ρ} {q : ρ} {ds : List D} {K : D → Prop} (hd : ds = []) (h : ∀ r, A r = some q → K (Layout.d r)) (hF : (f39 N ).bind A = some q) : ∃ d, G39 ds d ∧ K d := by
  obtain ⟨r, hr, hA⟩ := bind_some hF
  exact ⟨_, ⟨N, r, hd, hr, rfl⟩, h r hA⟩
set_option maxRecDepth 20000 in
set_option maxHeartbeats 4000000 in
theorem P39 : PureOK Try.prog 39 G39 := by
  refine pure_of_vc (c := mkCtx tyTree [(42, true, purePg [[1]] G42)]) rfl tyOK (ctx_cons (callable Try.func42 rfl rfl) P42 (ctx_nil)) [[0, 0, 4]] 0 Try.func39 rfl rfl (by decide) (by kernel_rfl) ?_
  rintro ds d ⟨N, r, rfl, hF, rfl⟩ hok
  clear hok
  refine ⟨rfl, ?_⟩
  show vc _ _ _ _ ⟨[], []⟩ _
  unfold f39 at hF
  repeat' (first
    | ((with_reducible refine q0 _ _ ?_); clear Q q0 q1 q2)
    | ((with_reducible refine q1 _ _ _ _ ?_); clear Q q0 q1 q2)
    | ((with_reducible refine q2 _ _ _ ?_); clear Q q0 q1 q2)
    | ((with_reducible refine seq_op ?hx (fun Q q0 q1 q2 => ?_)); (case hx => exact rfl); conv => whnf)
    | ((with_reducible refine seq_op0 ?hx (fun Q q0 q1 q2 => ?_)); (case hx => exact rfl); conv => whnf)
    | ((with_reducible refine seq_nil ?_); (first | ((with_reducible refine hR _ ?_); clear R hR) | ((with_reducible refine hL _ ?_); clear L hL)))
    | ((with_reducible refine int_step ?_); conv => whnf)
    | with_reducible refine vc_skip ?_
    | with_reducible refine vc_ret ?_
    | ((with_reducible refine vc_seqN [] ?hx ?_); (case hx => exact rfl))
    | (with_reducible refine vc_region (fun R hR => ?_))
    | fail
    | (revert hF; (with_reducible refine G42.step ?hx ?_); (case hx => exact rfl); intro v hF; conv => whnf)
    | with_reducible refine k_seq_ret ?_
    | ((refine row_all ?hn ?_); (case hn => first | exact rfl | (simp; done) | (simp; omega)); conv => whnf)
    | ((with_reducible refine le_step ?hn ?_); (case hn => first | exact rfl | assumption | omega); conv => whnf)
    | ((refine ⟨?hx, ?_⟩); (case hx => exact ⟨rfl, Nat.le_of_ble_eq_true rfl, rfl⟩); conv => whnf)
    | ((with_reducible refine ex_step ?_); conv => whnf)
    | ((with_reducible refine both_T ?hx ?_); (case hx => first | exact rfl | assumption | exact notT (by assumption)); conv => whnf)
    | ((with_reducible refine both_F ?hx ?_); (case hx => first | exact rfl | assumption | exact notF (by assumption)); conv => whnf)
    | (revert hF; (with_reducible refine ite_step ?_ ?_) <;> (intro hc hF; conv => whnf))
    | (show retD _ _ _ _ _ _; conv => whnf)
    | ((refine ⟨?hx, trivial⟩); (case hx => (cases hF; exact rfl)))
    | ((refine ⟨?hx, ?_⟩); (case hx => decide); conv => whnf)
    | ((with_reducible refine k_seq ?_))
    | (have hF : (none : Option _) = some _ := hF; cases hF))
end
end Go.Vc
namespace Go.Vc
open Go.Proofs
set_option linter.unusedVariables false
set_option linter.unnecessarySimpa false
set_option linter.unusedSimpArgs false
section
variable {c : Ctx} {p nid : Nat} {a b : Code} {st : St} {K : Ex → St → Prop}
/- f40: tusche/tuschelaw06.kinds -/
def f40_c6 (out3 : List Kind) : Option ((List Kind)) :=
 some (out3)
def Sf40_c6 : Ann := ⟨[3], [90003], [(.slot 3, 90003, 88, 3)], []⟩
def Vf40_c6 (out3 : List Kind) : List SV := [.rs 90003 (List.length out3)]
def Bf40_c6 (out3 : List Kind) : List Blk := [.row 88 3 (List.map Kind.d out3)]
def Yf40_c6 (y : (List Kind)) : List SV := Vf40_c6 y
def Xf40_c6 (y : (List Kind)) : List Blk := Bf40_c6 y
def Jf40_c6 (r : (List Kind)) (y : (List Kind)) : Prop := f40_c6 y = some r
def V2f40_c6 (out3 : List Kind) (m0 : Nat) : List SV := [.rs 90003 m0]
def B2f40_c6 (out3 : List Kind) (m0 : Nat) : List Blk := [.row 88 3 (List.map Kind.d out3)]
theorem Cf40_c6 {r : (List Kind)} {g : _ → Option ((List Kind))} (hn : Nat.beq (nid * 1000 + firstRegion b) 6 = true) (hz : Sf40_c6.ok p = true) (h : g f40_c6 = some r → vc c p nid a st (KHead Sf40_c6 Yf40_c6 Xf40_c6 (Jf40_c6 r) K)) (h2 : ∀ (out3 : List Kind), f40_c6 out3 = some r → vc c p nid b (St.mk' Sf40_c6 (Vf40_c6 out3) (Bf40_c6 out3)) K) (hF : joinK f40_c6 g = some r) : vc c p nid (.seq a b) st K :=
  vc_cut Sf40_c6 Yf40_c6 Xf40_c6 (Jf40_c6 r) hz (h hF) fun y hy => h2 y hy
theorem Zf40_c6 {r : (List Kind)} {out3 : List Kind} {m0 : Nat} (hF : f40_c6 out3 = some r) (h0 : AtH Sf40_c6 st (V2f40_c6 out3 m0) (B2f40_c6 out3 m0)) (em0 : m0 = List.length out3) : KHead Sf40_c6 Yf40_c6 Xf40_c6 (Jf40_c6 r) K .normal st := by
  subst em0; exact khead (I := (Jf40_c6 r)) (x := (out3)) hF h0
def f40_3b (r3 : (List Kind) → Int → Option ((List Kind))) (a0 : List Int) (k0 : (List Kind) → Option ((List Kind))) (out3 : List Kind) (i4 : Int) : Option ((List Kind)) :=
 bif decide ((W (i4 + (2 : Int))) < (List.length a0 : Int)) then ((ix a0 i4).bind fun x1 =>
 (ix a0 (W (i4 + (1 : Int)))).bind fun x2 =>
 (ix a0 (W (i4 + (2 : Int)))).bind fun x3 =>
 (app 24 out3 [(Kind.mk x1 x2 x3)]).bind fun x4 =>
 r3 x4 (W (i4 + (3 : Int))))
 else (k0 out3)
def f40_3 (a0 : List Int) (k0 : (List Kind) → Option ((List Kind))) : Nat → (List Kind) → Int → Option ((List Kind))
  | 0, _, _ => none
  | n + 1, out3, i4 => f40_3b (f40_3 a0 k0 n) a0 k0 out3 i4
def Sf40_3 : Ann := ⟨[0, 3, 4], [90003], [(.slot 3, 90003, 88, 3)], []⟩
def Vf40_3 (a0 : List Int) (out3 : List Kind) (i4 : Int) : List SV := [.dat (sl_iN a0), .rs 90003 (List.length out3), .dat (iN i4)]
def Bf40_3 (a0 : List Int) (out3 : List Kind) (i4 : Int) : List Blk := [.row 88 3 (List.map Kind.d out3)]
def Yf40_3 (a0 : List Int) (y : Nat × (List Kind) × Int) : List SV := Vf40_3 a0 y.2.1 y.2.2
def Xf40_3 (a0 : List Int) (y : Nat × (List Kind) × Int) : List Blk := Bf40_3 a0 y.2.1 y.2.2
def Jf40_3 (a0 : List Int) (k0 : (List Kind) → Option ((List Kind))) (r : (List Kind)) (y : Nat × (List Kind) × Int) : Prop := f40_3 a0 k0 y.1 y.2.1 y.2.2 = some r
def V2f40_3 (a0 : List Int) (out3 : List Kind) (i4 : Int) (m0 : Nat) : List SV := [.dat (sl_iN a0), .rs 90003 m0, .dat (iN i4)]
def B2f40_3 (a0 : List Int) (out3 : List Kind) (i4 : Int) (m0 : Nat) : List Blk := [.row 88 3 (List.map Kind.d out3)]
theorem Lf40_3 {r : (List Kind)} {a0 : List Int} {k0 : (List Kind) → Option ((List Kind))} {fu : Nat} {out3 : List Kind} {i4 : Int} {m0 : Nat} (hz : Sf40_3.ok p = true) (h0 : AtH Sf40_3 st (V2f40_3 a0 out3 i4 m0) (B2f40_3 a0 out3 i4 m0)) (em0 : m0 = List.length out3) (h : ∀ (n : Nat) (out3 : List Kind) (i4 : Int), f40_3b (f40_3 a0 k0 n) a0 k0 out3 i4 = some r → vc c p nid a (St.mk' Sf40_3 (Vf40_3 a0 out3 i4) (Bf40_3 a0 out3 i4)) (Kloop Sf40_3 (Yf40_3 a0) (Xf40_3 a0) (Jf40_3 a0 k0 r) Prod.fst (n + 1, out3, i4) K)) (hF : f40_3 a0 k0 fu out3 i4 = some r) : vc c p nid (.loop a) st K := by
  subst em0; refine vc_loop Sf40_3 (Yf40_3 a0) (Xf40_3 a0) (Jf40_3 a0 k0 r) Prod.fst hz (kheadL (x := (fu, out3, i4)) hF h0) ?_
  rintro ⟨_ | n, out3, i4⟩ hI
  · cases hI
  · exact h n out3 i4 hI
theorem Mf40_3 {r : (List Kind)} {a0 : List Int} {k0 : (List Kind) → Option ((List Kind))} {n : Nat} {out3 : List Kind} {i4 : Int} {out3_ : List Kind} {i4_ : Int} {m0 : Nat} (hF : f40_3 a0 k0 n out3 i4 = some r) (h0 : AtH Sf40_3 st (V2f40_3 a0 out3 i4 m0) (B2f40_3 a0 out3 i4 m0)) (em0 : m0 = List.length out3) : Kloop Sf40_3 (Yf40_3 a0) (Xf40_3 a0) (Jf40_3 a0 k0 r) Prod.fst (n + 1, out3_, i4_) K .normal st := by
  subst em0; exact kback (y := (n, out3, i4)) hF (Nat.lt_succ_self n) h0
def f40 (N : Nat) (a0 : List Int) : Option ((List Kind)) :=
 joinK f40_c6 fun k0 =>
 f40_3 a0 k0 N [] (0 : Int)
def G40 (ds : List D) (d : D) : Prop := ∃ (N : Nat) (a0 : List Int) (r : (List Kind)), ds = [sl_iN a0] ∧ f40 N a0 = some r ∧ d = sl_Kind r
theorem G40.step {N : Nat} {a0 : List Int} {ρ : Type} {A : (List Kind) → Option ρ} {q : ρ} {ds : List D} {K : D → Prop} (hd : ds = [sl_iN a0]) (h : ∀ r, A r = some q → K (sl_Kind r)) (hF : (f40 N a0).bind A = some q) : ∃ d, G40 ds d ∧ K d := by
  obtain ⟨r, hr, hA⟩ := bind_some hF
  exact ⟨_, ⟨N, a0, r, hd, hr, rfl⟩, h r hA⟩
set_option maxRecDepth 20000 in
set_option maxHeartbeats 4000000 in
theorem P40 : PureOK Try.prog 40 G40 := by
  refine pure_of_vc (c := mkCtx tyTree []) rfl tyOK (ctx_nil) [[3]] 1 Try.func40 rfl rfl (by decide) (by kernel_rfl) ?_
  rintro ds d ⟨N, a0, r, rfl, hF, rfl⟩ hok
  clear hok
  refine ⟨rfl, ?_⟩
  show vc _ _ _ _ ⟨[(0, .dat (sl_iN a0))], []⟩ _
  unfold f40 at hF
  repeat' (first
    | ((with_reducible refine q0 _ _ ?_); clear Q q0 q1 q2)
    | ((with_reducible refine q1 _ _ _ _ ?_); clear Q q0 q1 q2)
    | ((with_reducible refine q2 _ _ _ ?_); clear Q q0 q1 q2)
    | ((with_reducible refine seq_op ?hx (fun Q q0 q1 q2 => ?_)); (case hx => exact rfl); conv => whnf)
    | ((with_reducible refine draw_op ?hx (fun Q q0 q1 q2 => ?_)); (case hx => exact rfl); conv => whnf)
    | ((with_reducible refine cond_id ?_); (first | ((refine condKT rfl ?hy ?_); (case hy => first | assumption | exact notT (by assumption) | exact rfl)) | ((refine condKF rfl ?hy ?_); (case hy => first | assumption | exact notF (by assumption) | exact rfl)) | (revert hF; (with_reducible refine condF ?hx ?_ ?_); (case hx => exact rfl); all_goals (intro hc hF))))
    | ((with_reducible refine seq_nil ?_); (first | ((with_reducible refine hR _ ?_); clear R hR) | ((with_reducible refine hL _ ?_); clear L hL)))
    | ((with_reducible refine draw_nil ?_); (with_reducible refine hR _ _ ?hx ?_); (case hx => kernel_rfl); (first | clear R hR | clear hR))
    | ((with_reducible refine int_step ?_); conv => whnf)
    | ((with_reducible refine len_step ?_); conv => whnf)
    | ((with_reducible refine idx2 (by assumption) ?_); conv => whnf)
    | ((with_reducible refine idx3 (by assumption) ?_); conv => whnf)
    | with_reducible refine vc_block ?_
    | with_reducible refine vc_skip ?_
    | with_reducible refine vc_ret ?_
    | with_reducible refine vc_exit ?_
    | ((with_reducible refine vc_seqN [6] ?hx ?_); (case hx => exact rfl))
    | (with_reducible refine vc_region (fun R hR => ?_))
    | ((with_reducible refine vc_draw ?hx (fun R hR => ?_)); (case hx => exact rfl))
    | fail
    | (revert hF; (refine Cf40_c6 rfl rfl ?_ ?_); (intro hF); rotate_left; (intro out3 hF; unfold f40_c6 at hF); rotate_right)
    | exact Zf40_c6 hF ⟨_, rfl, rfl, rfl, rfl⟩ (by first | exact rfl | assumption | omega)
    | (revert hF; (refine Lf40_3 rfl ⟨_, rfl, rfl, rfl, rfl⟩ (by first | exact rfl | assumption | omega) ?_); intro n out3 i4 hF; unfold f40_3b at hF)
    | exact Mf40_3 hF ⟨_, rfl, rfl, rfl, rfl⟩ (by first | exact rfl | assumption | omega)
    | with_reducible refine k_seq_ret ?_
    | with_reducible refine k_seq_exit ?_
    | with_reducible refine k_blk ?_
    | with_reducible refine k_blk_ret ?_
    | with_reducible refine k_blk_here ?_
    | ((with_reducible refine k_blk_out ?hx ?_); (case hx => exact rfl))
    | with_reducible refine k_loop_ret ?_
    | with_reducible refine k_loop_exit ?_
    | (revert hF; (with_reducible refine idx1 ?hn ?_); (case hn => first | exact rfl | exact (List.length_map _) | assumption | omega | simp); intro x hx hF; conv => whnf)
    | ((with_reducible have hG := app_fact hF); clear hF; (first | ((refine app_row hG ?hn ?hs (fun q hF => ?_)); (case hn => first | exact rfl | assumption | omega); (case hs => exact rfl)) | ((refine app_nil (d := Kind.d) hG ?hs (fun q hF => ?_)); (case hs => exact rfl)) | ((refine app_gen (d := Kind.d) hG ?ho ?hn ?hs (fun q hF => ?_)); (case ho => exact rfl); (case hn => exact rfl); (case hs => exact rfl))); clear hG; conv => whnf)
    | ((refine row_all ?hn ?_); (case hn => first | exact rfl | (simp; done) | (simp; omega)); conv => whnf)
    | ((with_reducible refine le_step ?hn ?_); (case hn => first | exact rfl | assumption | omega); conv => whnf)
    | ((refine ⟨?hx, ?_⟩); (case hx => exact ⟨rfl, Nat.le_of_ble_eq_true rfl, rfl⟩); conv => whnf)
    | ((with_reducible refine ex_step ?_); conv => whnf)
    | ((with_reducible refine both_T ?hx ?_); (case hx => first | exact rfl | assumption | exact notT (by assumption)); conv => whnf)
    | ((with_reducible refine both_F ?hx ?_); (case hx => first | exact rfl | assumption | exact notF (by assumption)); conv => whnf)
    | (revert hF; (with_reducible refine ite_step ?_ ?_) <;> (intro hc hF; conv => whnf))
    | ((with_reducible refine vc_condT ?hx ?_); (case hx => exact rfl))
    | ((with_reducible refine vc_condF ?hx ?_); (case hx => exact rfl))
    | (show retD _ _ _ _ _ _; conv => whnf)
    | ((refine ⟨?hx, trivial⟩); (case hx => (cases hF; exact rfl)))
    | ((refine ⟨?hx, ?_⟩); (case hx => decide); conv => whnf)
    | ((with_reducible refine k_seq ?_))
    | (have hF : (none : Option _) = some _ := hF; cases hF))
end
end Go.Vc
namespace Go.Vc
open Go.Proofs
set_option linter.unusedVariables false
set_option linter.unnecessarySimpa false
set_option linter.unusedSimpArgs false
section
variable {c : Ctx} {p nid : Nat} {a b : Code} {st : St} {K : Ex → St → Prop}
/- f41: tusche/tuschelaw06.L -/
def f41 (N : Nat) : Option (Layout) :=
 (f42 N [(0 : Int), (0 : Int), (2 : Int), (4 : Int), (2 : Int), (0 : Int), (4 : Int), (2 : Int), (2 : Int), (2 : Int), (2 : Int), (2 : Int), (4 : Int), (2 : Int), (2 : Int), (2 : Int)]).bind fun x1 =>
 some ((Layout.mk (6 : Int) (4 : Int) x1))
def G41 (ds : List D) (d : D) : Prop := ∃ (N : Nat) (r : Layout), ds = [] ∧ f41 N  = some r ∧ d = Layout.d r
theorem G41.step {N : Nat} {ρ : Type} {A : Layout → Option ρ} {q : ρ} {ds : List D} {K : D → Prop} (hd : ds = []) (h : ∀ r, A r = some q → K (Layout.d r)) (hF : (f41 N ).bind A = some q) : ∃ d, G41 ds d ∧ K d := by
  obtain ⟨r, hr, hA⟩ := bind_some hF
  exact ⟨_, ⟨N, r, hd, hr, rfl⟩, h r hA⟩
set_option maxRecDepth 20000 in
set_option maxHeartbeats 4000000 in
theorem P41 : PureOK Try.prog 41 G41 := by
  refine pure_of_vc (c := mkCtx tyTree [(42, true, purePg [[1]] G42)]) rfl tyOK (ctx_cons (callable Try.func42 rfl rfl) P42 (ctx_nil)) [[0, 0, 4]] 0 Try.func41 rfl rfl (by decide) (by kernel_rfl) ?_
  rintro ds d ⟨N, r, rfl, hF, rfl⟩ hok
  clear hok
  refine ⟨rfl, ?_⟩
  show vc _ _ _ _ ⟨[], []⟩ _
  unfold f41 at hF
  repeat' (first
    | ((with_reducible refine q0 _ _ ?_); clear Q q0 q1 q2)
    | ((with_reducible refine q1 _ _ _ _ ?_); clear Q q0 q1 q2)
    | ((with_reducible refine q2 _ _ _ ?_); clear Q q0 q1 q2)
    | ((with_reducible refine seq_op ?hx (fun Q q0 q1 q2 => ?_)); (case hx => exact rfl); conv => whnf)
    | ((with_reducible refine seq_op0 ?hx (fun Q q0 q1 q2 => ?_)); (case hx => exact rfl); conv => whnf)
    | ((with_reducible refine seq_nil ?_); (first | ((with_reducible refine hR _ ?_); clear R hR) | ((with_reducible refine hL _ ?_); clear L hL)))
    | ((with_reducible refine int_step ?_); conv => whnf)
    | with_reducible refine vc_skip ?_
    | with_reducible refine vc_ret ?_
    | ((with_reducible refine vc_seqN [] ?hx ?_); (case hx => exact rfl))
    | (with_reducible refine vc_region (fun R hR => ?_))
    | fail
    | (revert hF; (with_reducible refine G42.step ?hx ?_); (case hx => exact rfl); intro v hF; conv => whnf)
    | with_reducible refine k_seq_ret ?_
    | ((refine row_all ?hn ?_); (case hn => first | exact rfl | (simp; done) | (simp; omega)); conv => whnf)
    | ((with_reducible refine le_step ?hn ?_); (case hn => first | exact rfl | assumption | omega); conv => whnf)
    | ((refine ⟨?hx, ?_⟩); (case hx => exact ⟨rfl, Nat.le_of_ble_eq_true rfl, rfl⟩); conv => whnf)
    | ((with_reducible refine ex_step ?_); conv => whnf)
    | ((with_reducible refine both_T ?hx ?_); (case hx => first | exact rfl | assumption | exact notT (by assumption)); conv => whnf)
    | ((with_reducible refine both_F ?hx ?_); (case hx => first | exact rfl | assumption | exact notF (by assumption)); conv => whnf)
    | (revert hF; (with_reducible refine ite_step ?_ ?_) <;> (intro hc hF; conv => whnf))
    | (show retD _ _ _ _ _ _; conv => whnf)
    | ((refine ⟨?hx, trivial⟩); (case hx => (cases hF; exact rfl)))
    | ((refine ⟨?hx, ?_⟩); (case hx => decide); conv => whnf)
    | ((with_reducible refine k_seq ?_))
    | (have hF : (none : Option _) = some _ := hF; cases hF))
end
end Go.Vc
namespace Go.Vc
open Go.Proofs
set_option linter.unusedVariables false
set_option linter.unnecessarySimpa false
set_option linter.unusedSimpArgs false
section
variable {c : Ctx} {p nid : Nat} {a b : Code} {st : St} {K : Ex → St → Prop}
/- f43: tusche/tuschelaw06.cuts -/
def f43_c8 : Option (Bool) :=
 some (true)
def Sf43_c8 : Ann := ⟨[], [], [], []⟩
def Vf43_c8 : List SV := []
def Bf43_c8 : List Blk := []
def Yf43_c8 (y : Unit) : List SV := Vf43_c8
def Xf43_c8 (y : Unit) : List Blk := Bf43_c8
def Jf43_c8 (r : Bool) (y : Unit) : Prop := f43_c8 = some r
theorem Cf43_c8 {r : Bool} {g : _ → Option (Bool)} (hn : Nat.beq (nid * 1000 + firstRegion b) 8 = true) (hz : Sf43_c8.ok p = true) (h : g f43_c8 = some r → vc c p nid a st (KHead Sf43_c8 Yf43_c8 Xf43_c8 (Jf43_c8 r) K)) (h2 : ∀ (_ : Unit), f43_c8 = some r → vc c p nid b (St.mk' Sf43_c8 Vf43_c8 Bf43_c8) K) (hF : joinK f43_c8 g = some r) : vc c p nid (.seq a b) st K :=
  vc_cut Sf43_c8 Yf43_c8 Xf43_c8 (Jf43_c8 r) hz (h hF) fun y hy => h2 () hy
theorem Zf43_c8 {r : Bool} (hF : f43_c8 = some r) (h0 : AtH Sf43_c8 st Vf43_c8 Bf43_c8) : KHead Sf43_c8 Yf43_c8 Xf43_c8 (Jf43_c8 r) K .normal st := by
  exact khead (I := (Jf43_c8 r)) (x := ()) hF h0
def f43_4b (r4 : Int → Option (Bool)) (a0 : List Cut) (a1 : List Cut) (k0 : Option (Bool)) (i5 : Int) : Option (Bool) :=
 bif decide (i5 < (List.length a0 : Int)) then ((ix a0 i5).bind fun x1 =>
 (ix a1 i5).bind fun x2 =>
 bif !((x1.Up == x2.Up) && (decide (x1.At = x2.At) && true)) then (some (false))
 else (r4 (W (i5 + (1 : Int)))))
 else k0
def f43_4 (a0 : List Cut) (a1 : List Cut) (k0 : Option (Bool)) : Nat → Int → Option (Bool)
  | 0, _ => none
  | n + 1, i5 => f43_4b (f43_4 a0 a1 k0 n) a0 a1 k0 i5
def Sf43_4 : Ann := ⟨[0, 1, 5], [], [], []⟩
def Vf43_4 (a0 : List Cut) (a1 : List Cut) (i5 : Int) : List SV := [.dat (sl_Cut a0), .dat (sl_Cut a1), .dat (iN i5)]
def Bf43_4 (a0 : List Cut) (a1 : List Cut) (i5 : Int) : List Blk := []
def Yf43_4 (a0 : List Cut) (a1 : List Cut) (y : Nat × Int) : List SV := Vf43_4 a0 a1 y.2
def Xf43_4 (a0 : List Cut) (a1 : List Cut) (y : Nat × Int) : List Blk := Bf43_4 a0 a1 y.2
def Jf43_4 (a0 : List Cut) (a1 : List Cut) (k0 : Option (Bool)) (r : Bool) (y : Nat × Int) : Prop := f43_4 a0 a1 k0 y.1 y.2 = some r
theorem Lf43_4 {r : Bool} {a0 : List Cut} {a1 : List Cut} {k0 : Option (Bool)} {fu : Nat} {i5 : Int} (hz : Sf43_4.ok p = true) (h0 : AtH Sf43_4 st (Vf43_4 a0 a1 i5) (Bf43_4 a0 a1 i5)) (h : ∀ (n : Nat) (i5 : Int), f43_4b (f43_4 a0 a1 k0 n) a0 a1 k0 i5 = some r → vc c p nid a (St.mk' Sf43_4 (Vf43_4 a0 a1 i5) (Bf43_4 a0 a1 i5)) (Kloop Sf43_4 (Yf43_4 a0 a1) (Xf43_4 a0 a1) (Jf43_4 a0 a1 k0 r) Prod.fst (n + 1, i5) K)) (hF : f43_4 a0 a1 k0 fu i5 = some r) : vc c p nid (.loop a) st K := by
  refine vc_loop Sf43_4 (Yf43_4 a0 a1) (Xf43_4 a0 a1) (Jf43_4 a0 a1 k0 r) Prod.fst hz (kheadL (x := (fu, i5)) hF h0) ?_
  rintro ⟨_ | n, i5⟩ hI
  · cases hI
  · exact h n i5 hI
theorem Mf43_4 {r : Bool} {a0 : List Cut} {a1 : List Cut} {k0 : Option (Bool)} {n : Nat} {i5 : Int} {i5_ : Int} (hF : f43_4 a0 a1 k0 n i5 = some r) (h0 : AtH Sf43_4 st (Vf43_4 a0 a1 i5) (Bf43_4 a0 a1 i5)) : Kloop Sf43_4 (Yf43_4 a0 a1) (Xf43_4 a0 a1) (Jf43_4 a0 a1 k0 r) Prod.fst (n + 1, i5_) K .normal st := by
  exact kback (y := (n, i5)) hF (Nat.lt_succ_self n) h0
def f43 (N : Nat) (a0 : List Cut) (a1 : List Cut) : Option (Bool) :=
 bif decide (¬ (List.length a0 : Int) = (List.length a1 : Int)) then (some (false))
 else (joinK f43_c8 fun k0 =>
 f43_4 a0 a1 k0 N (0 : Int))
def G43 (ds : List D) (d : D) : Prop := ∃ (N : Nat) (a0 : List Cut) (a1 : List Cut) (r : Bool), ds = [sl_Cut a0, sl_Cut a1] ∧ f43 N a0 a1 = some r ∧ d = bN r
theorem G43.step {N : Nat} {a0 : List Cut} {a1 : List Cut} {ρ : Type} {A : Bool → Option ρ} {q : ρ} {ds : List D} {K : D → Prop} (hd : ds = [sl_Cut a0, sl_Cut a1]) (h : ∀ r, A r = some q → K (bN r)) (hF : (f43 N a0 a1).bind A = some q) : ∃ d, G43 ds d ∧ K d := by
  obtain ⟨r, hr, hA⟩ := bind_some hF
  exact ⟨_, ⟨N, a0, a1, r, hd, hr, rfl⟩, h r hA⟩
set_option maxRecDepth 20000 in
set_option maxHeartbeats 4000000 in
theorem P43 : PureOK Try.prog 43 G43 := by
  refine pure_of_vc (c := mkCtx tyTree []) rfl tyOK (ctx_nil) [[0]] 2 Try.func43 rfl rfl (by decide) (by kernel_rfl) ?_
  rintro ds d ⟨N, a0, a1, r, rfl, hF, rfl⟩ hok
  clear hok
  refine ⟨rfl, ?_⟩
  show vc _ _ _ _ ⟨[(0, .dat (sl_Cut a0)), (1, .dat (sl_Cut a1))], []⟩ _
  unfold f43 at hF
  repeat' (first
    | ((with_reducible refine q0 _ _ ?_); clear Q q0 q1 q2)
    | ((with_reducible refine q1 _ _ _ _ ?_); clear Q q0 q1 q2)
    | ((with_reducible refine q2 _ _ _ ?_); clear Q q0 q1 q2)
    | ((with_reducible refine seq_op ?hx (fun Q q0 q1 q2 => ?_)); (case hx => exact rfl); conv => whnf)
    | ((with_reducible refine draw_op ?hx (fun Q q0 q1 q2 => ?_)); (case hx => exact rfl); conv => whnf)
    | ((with_reducible refine cond_id ?_); (first | ((refine condKT rfl ?hy ?_); (case hy => first | assumption | exact notT (by assumption) | exact rfl)) | ((refine condKF rfl ?hy ?_); (case hy => first | assumption | exact notF (by assumption) | exact rfl)) | (revert hF; (with_reducible refine condF ?hx ?_ ?_); (case hx => exact rfl); all_goals (intro hc hF))))
    | ((with_reducible refine seq_nil ?_); (first | ((with_reducible refine hR _ ?_); clear R hR) | ((with_reducible refine hL _ ?_); clear L hL)))
    | ((with_reducible refine draw_nil ?_); (with_reducible refine hR _ _ ?hx ?_); (case hx => kernel_rfl); (first | clear R hR | clear hR))
    | ((with_reducible refine int_step ?_); conv => whnf)
    | ((with_reducible refine len_step ?_); conv => whnf)
    | ((with_reducible refine idx2 (by assumption) ?_); conv => whnf)
    | ((with_reducible refine idx3 (by assumption) ?_); conv => whnf)
    | with_reducible refine vc_block ?_
    | with_reducible refine vc_skip ?_
    | with_reducible refine vc_ret ?_
    | with_reducible refine vc_exit ?_
    | ((with_reducible refine vc_seqN [8] ?hx ?_); (case hx => exact rfl))
    | (with_reducible refine vc_region (fun R hR => ?_))
    | ((with_reducible refine vc_draw ?hx (fun R hR => ?_)); (case hx => exact rfl))
    | fail
    | (revert hF; (refine Cf43_c8 rfl rfl ?_ ?_); (intro hF); rotate_left; (intro _ hF; unfold f43_c8 at hF); rotate_right)
    | exact Zf43_c8 hF ⟨_, rfl, rfl, rfl, rfl⟩
    | (revert hF; (refine Lf43_4 rfl ⟨_, rfl, rfl, rfl, rfl⟩ ?_); intro n i5 hF; unfold f43_4b at hF)
    | exact Mf43_4 hF ⟨_, rfl, rfl, rfl, rfl⟩
    | with_reducible refine k_seq_ret ?_
    | with_reducible refine k_seq_exit ?_
    | with_reducible refine k_blk ?_
    | with_reducible refine k_blk_ret ?_
    | with_reducible refine k_blk_here ?_
    | ((with_reducible refine k_blk_out ?hx ?_); (case hx => exact rfl))
    | with_reducible refine k_loop_ret ?_
    | with_reducible refine k_loop_exit ?_
    | (revert hF; (with_reducible refine idx1 ?hn ?_); (case hn => first | exact rfl | exact (List.length_map _) | assumption | omega | simp); intro x hx hF; conv => whnf)
    | ((refine row_all ?hn ?_); (case hn => first | exact rfl | (simp; done) | (simp; omega)); conv => whnf)
    | ((with_reducible refine le_step ?hn ?_); (case hn => first | exact rfl | assumption | omega); conv => whnf)
    | ((refine ⟨?hx, ?_⟩); (case hx => exact ⟨rfl, Nat.le_of_ble_eq_true rfl, rfl⟩); conv => whnf)
    | ((with_reducible refine ex_step ?_); conv => whnf)
    | ((with_reducible refine both_T ?hx ?_); (case hx => first | exact rfl | assumption | exact notT (by assumption)); conv => whnf)
    | ((with_reducible refine both_F ?hx ?_); (case hx => first | exact rfl | assumption | exact notF (by assumption)); conv => whnf)
    | (revert hF; (with_reducible refine ite_step ?_ ?_) <;> (intro hc hF; conv => whnf))
    | ((with_reducible refine vc_condT ?hx ?_); (case hx => exact rfl))
    | ((with_reducible refine vc_condF ?hx ?_); (case hx => exact rfl))
    | (show retD _ _ _ _ _ _; conv => whnf)
    | ((refine ⟨?hx, trivial⟩); (case hx => (cases hF; exact rfl)))
    | ((refine ⟨?hx, ?_⟩); (case hx => decide); conv => whnf)
    | ((with_reducible refine k_seq ?_))
    | (have hF : (none : Option _) = some _ := hF; cases hF))
end
end Go.Vc
namespace Go.Vc
open Go.Proofs
set_option linter.unusedVariables false
set_option linter.unnecessarySimpa false
set_option linter.unusedSimpArgs false
section
variable {c : Ctx} {p nid : Nat} {a b : Code} {st : St} {K : Ex → St → Prop}
/- f13: tusche/tuschelaw06.works -/
def f13 (N : Nat) : Option (Bool) :=
 (f41 N ).bind fun x1 =>
 (f15 N x1).bind fun x2 =>
 (f41 N ).bind fun x3 =>
 (f22 N x3).bind fun x4 =>
 (f39 N ).bind fun x5 =>
 (f22 N x5).bind fun x6 =>
 (f39 N ).bind fun x7 =>
 (f24 N x7).bind fun x8 =>
 (f40 N [(2 : Int), (2 : Int), (3 : Int), (3 : Int), (1 : Int), (2 : Int)]).bind fun x9 =>
 (f29 N (5 : Int) (4 : Int) x9).bind fun x10 =>
 (f41 N ).bind fun x11 =>
 (f40 N [(2 : Int), (2 : Int), (3 : Int), (2 : Int), (4 : Int), (5 : Int), (4 : Int), (2 : Int), (1 : Int)]).bind fun x12 =>
 (f17 N x11 x12).bind fun x13 =>
 (f40 N [(2 : Int), (2 : Int), (3 : Int), (3 : Int), (1 : Int), (2 : Int)]).bind fun x14 =>
 (f31 N (5 : Int) (4 : Int) x14).bind fun x15 =>
 bif decide (¬ x2.2 = (0 : Int)) then (some (false))
 else (bif decide (¬ x4.2 = (0 : Int)) then (some (false))
 else (bif decide (¬ x6.2 = (14 : Int)) then (some (false))
 else (bif decide (¬ x8.2 = (0 : Int)) then (some (false))
 else (bif decide (¬ x10.2 = (0 : Int)) then (some (false))
 else (bif decide (¬ x13.2 = (0 : Int)) then (some (false))
 else (bif decide (¬ x15.2 = (0 : Int)) then (some (false))
 else ((f40 N [(2 : Int), (2 : Int), (3 : Int), (3 : Int), (1 : Int), (2 : Int)]).bind fun x16 =>
 (f17 N x15.1 x16).bind fun x17 =>
 bif decide (x17.2 = (0 : Int)) then (bif decide (x17.1 = (14 : Int)) then ((f43 N x2.1 [(Cut.mk true (2 : Int))]).bind fun x18 =>
 bif x18 then (bif decide ((List.length x4.1 : Int) = (3 : Int)) then ((f41 N ).bind fun x19 =>
 (f25 N x19 x4.1).bind fun x20 =>
 bif decide (x20 = (0 : Int)) then (bif (decide (x8.1.X = (0 : Int)) && (decide (x8.1.Y = (0 : Int)) && (decide (x8.1.W = (3 : Int)) && (decide (x8.1.H = (3 : Int)) && true)))) then (bif decide (x10.1 = (14 : Int)) then (bif decide (x13.1 = (12 : Int)) then ((f41 N ).bind fun x21 =>
 (f25 N x21 [(Cut.mk true (2 : Int)), (Cut.mk false (2 : Int))]).bind fun x22 =>
 bif decide (x22 = (22 : Int)) then ((f41 N ).bind fun x23 =>
 (f25 N x23 [(Cut.mk true (3 : Int))]).bind fun x24 =>
 some (decide (x24 = (13 : Int))))
 else (some (false)))
 else (some (false)))
 else (some (false)))
 else (some (false)))
 else (some (false)))
 else (some (false)))
 else (some (false)))
 else (some (false)))
 else (some (false)))))))))
def G13 (ds : List D) (d : D) : Prop := ∃ (N : Nat) (r : Bool), ds = [] ∧ f13 N  = some r ∧ d = bN r
theorem G13.step {N : Nat} {ρ : Type} {A : Bool → Option ρ} {q : ρ} {ds : List D} {K : D → Prop} (hd : ds = []) (h : ∀ r, A r = some q → K (bN r)) (hF : (f13 N ).bind A = some q) : ∃ d, G13 ds d ∧ K d := by
  obtain ⟨r, hr, hA⟩ := bind_some hF
  exact ⟨_, ⟨N, r, hd, hr, rfl⟩, h r hA⟩
set_option maxRecDepth 20000 in
set_option maxHeartbeats 4000000 in
theorem P13 : PureOK Try.prog 13 G13 := by
  refine pure_of_vc (c := mkCtx tyTree [(43, true, purePg [[2], [2]] G43), (41, true, purePg [] G41), (40, true, purePg [[1]] G40), (39, true, purePg [] G39), (31, true, purePg [[0], [0], [3]] G31), (29, true, purePg [[0], [0], [3]] G29), (25, true, purePg [[0, 0, 4], [2]] G25), (24, true, purePg [[0, 0, 4]] G24), (22, true, purePg [[0, 0, 4]] G22), (17, true, purePg [[0, 0, 4], [3]] G17), (15, true, purePg [[0, 0, 4]] G15)]) rfl tyOK (ctx_cons (callable Try.func43 rfl rfl) P43 (ctx_cons (callable Try.func41 rfl rfl) P41 (ctx_cons (callable Try.func40 rfl rfl) P40 (ctx_cons (callable Try.func39 rfl rfl) P39 (ctx_cons (callable Try.func31 rfl rfl) P31 (ctx_cons (callable Try.func29 rfl rfl) P29 (ctx_cons (callable Try.func25 rfl rfl) P25 (ctx_cons (callable Try.func24 rfl rfl) P24 (ctx_cons (callable Try.func22 rfl rfl) P22 (ctx_cons (callable Try.func17 rfl rfl) P17 (ctx_cons (callable Try.func15 rfl rfl) P15 (ctx_nil)))))))))))) [[0]] 0 Try.func13 rfl rfl (by decide) (by kernel_rfl) ?_
  rintro ds d ⟨N, r, rfl, hF, rfl⟩ hok
  clear hok
  refine ⟨rfl, ?_⟩
  show vc _ _ _ _ ⟨[], []⟩ _
  unfold f13 at hF
  repeat' (first
    | ((with_reducible refine q0 _ _ ?_); clear Q q0 q1 q2)
    | ((with_reducible refine q1 _ _ _ _ ?_); clear Q q0 q1 q2)
    | ((with_reducible refine q2 _ _ _ ?_); clear Q q0 q1 q2)
    | ((with_reducible refine seq_op ?hx (fun Q q0 q1 q2 => ?_)); (case hx => exact rfl); conv => whnf)
    | ((with_reducible refine draw_op ?hx (fun Q q0 q1 q2 => ?_)); (case hx => exact rfl); conv => whnf)
    | ((with_reducible refine seq_op0 ?hx (fun Q q0 q1 q2 => ?_)); (case hx => exact rfl); conv => whnf)
    | ((with_reducible refine draw_op0 ?hx (fun Q q0 q1 q2 => ?_)); (case hx => exact rfl); conv => whnf)
    | ((with_reducible refine seq_off ?hx ?_); (case hx => exact rfl))
    | ((with_reducible refine seq_off0 ?hx ?_); (case hx => exact rfl))
    | ((with_reducible refine draw_off ?hx ?_); (case hx => exact rfl))
    | ((with_reducible refine draw_off0 ?hx ?_); (case hx => exact rfl))
    | ((with_reducible refine seq_id ?_); (first | ((refine seq_opK rfl ?hy (fun Q q0 q1 q2 => ?_)); (case hy => first | assumption | exact notT (by assumption) | exact rfl); conv => whnf) | ((refine seq_offK rfl ?hy ?_); (case hy => first | assumption | exact notF (by assumption) | exact rfl)) | ((refine seq_opK0 rfl ?hy (fun Q q0 q1 q2 => ?_)); (case hy => first | assumption | exact notT (by assumption) | exact rfl); conv => whnf) | ((refine seq_offK0 rfl ?hy ?_); (case hy => first | assumption | exact notF (by assumption) | exact rfl)) | (revert hF; (with_reducible refine seq_opF ?hx ?_ ?_); (case hx => exact rfl); (intro hc hF Q q0 q1 q2; conv => whnf); rotate_left; (intro hc hF); rotate_right) | (revert hF; (with_reducible refine seq_opN ?hx ?_ ?_); (case hx => exact rfl); (intro hc hF); rotate_left; (intro hc hF Q q0 q1 q2; conv => whnf); rotate_right) | (revert hF; (with_reducible refine seq_opF0 ?hx ?_ ?_); (case hx => exact rfl); (intro hc hF Q q0 q1 q2; conv => whnf); rotate_left; (intro hc hF); rotate_right) | (revert hF; (with_reducible refine seq_opN0 ?hx ?_ ?_); (case hx => exact rfl); (intro hc hF); rotate_left; (intro hc hF Q q0 q1 q2; conv => whnf); rotate_right)))
    | ((with_reducible refine draw_id ?_); (first | ((refine draw_opK rfl ?hy (fun Q q0 q1 q2 => ?_)); (case hy => first | assumption | exact notT (by assumption) | exact rfl); conv => whnf) | ((refine draw_offK rfl ?hy ?_); (case hy => first | assumption | exact notF (by assumption) | exact rfl)) | ((refine draw_opK0 rfl ?hy (fun Q q0 q1 q2 => ?_)); (case hy => first | assumption | exact notT (by assumption) | exact rfl); conv => whnf) | ((refine draw_offK0 rfl ?hy ?_); (case hy => first | assumption | exact notF (by assumption) | exact rfl)) | (revert hF; (with_reducible refine draw_opF ?hx ?_ ?_); (case hx => exact rfl); (intro hc hF Q q0 q1 q2; conv => whnf); rotate_left; (intro hc hF); rotate_right) | (revert hF; (with_reducible refine draw_opN ?hx ?_ ?_); (case hx => exact rfl); (intro hc hF); rotate_left; (intro hc hF Q q0 q1 q2; conv => whnf); rotate_right) | (revert hF; (with_reducible refine draw_opF0 ?hx ?_ ?_); (case hx => exact rfl); (intro hc hF Q q0 q1 q2; conv => whnf); rotate_left; (intro hc hF); rotate_right) | (revert hF; (with_reducible refine draw_opN0 ?hx ?_ ?_); (case hx => exact rfl); (intro hc hF); rotate_left; (intro hc hF Q q0 q1 q2; conv => whnf); rotate_right)))
    | ((with_reducible refine cond_id ?_); (first | ((refine condKT rfl ?hy ?_); (case hy => first | assumption | exact notT (by assumption) | exact rfl)) | ((refine condKF rfl ?hy ?_); (case hy => first | assumption | exact notF (by assumption) | exact rfl)) | (revert hF; (with_reducible refine condF ?hx ?_ ?_); (case hx => exact rfl); all_goals (intro hc hF))))
    | ((with_reducible refine seq_nil ?_); (first | ((with_reducible refine hR _ ?_); clear R hR) | ((with_reducible refine hL _ ?_); clear L hL)))
    | ((with_reducible refine draw_nil ?_); (with_reducible refine hR _ _ ?hx ?_); (case hx => kernel_rfl); (first | clear R hR | clear hR))
    | ((with_reducible refine int_step ?_); conv => whnf)
    | ((with_reducible refine len_step ?_); conv => whnf)
    | with_reducible refine vc_block ?_
    | with_reducible refine vc_skip ?_
    | with_reducible refine vc_ret ?_
    | with_reducible refine vc_exit ?_
    | ((with_reducible refine vc_seqN [] ?hx ?_); (case hx => exact rfl))
    | (with_reducible refine vc_region (fun R hR => ?_))
    | ((with_reducible refine vc_draw ?hx (fun R hR => ?_)); (case hx => exact rfl))
    | fail
    | (revert hF; (with_reducible refine G15.step ?hx ?_); (case hx => exact rfl); intro v hF; conv => whnf)
    | (revert hF; (with_reducible refine G17.step ?hx ?_); (case hx => exact rfl); intro v hF; conv => whnf)
    | (revert hF; (with_reducible refine G22.step ?hx ?_); (case hx => exact rfl); intro v hF; conv => whnf)
    | (revert hF; (with_reducible refine G24.step ?hx ?_); (case hx => exact rfl); intro v hF; conv => whnf)
    | (revert hF; (with_reducible refine G25.step ?hx ?_); (case hx => exact rfl); intro v hF; conv => whnf)
    | (revert hF; (with_reducible refine G29.step ?hx ?_); (case hx => exact rfl); intro v hF; conv => whnf)
    | (revert hF; (with_reducible refine G31.step ?hx ?_); (case hx => exact rfl); intro v hF; conv => whnf)
    | (revert hF; (with_reducible refine G39.step ?hx ?_); (case hx => exact rfl); intro v hF; conv => whnf)
    | (revert hF; (with_reducible refine G40.step ?hx ?_); (case hx => exact rfl); intro v hF; conv => whnf)
    | (revert hF; (with_reducible refine G41.step ?hx ?_); (case hx => exact rfl); intro v hF; conv => whnf)
    | (revert hF; (with_reducible refine G43.step ?hx ?_); (case hx => exact rfl); intro v hF; conv => whnf)
    | with_reducible refine k_seq_ret ?_
    | with_reducible refine k_seq_exit ?_
    | with_reducible refine k_blk ?_
    | with_reducible refine k_blk_ret ?_
    | with_reducible refine k_blk_here ?_
    | ((with_reducible refine k_blk_out ?hx ?_); (case hx => exact rfl))
    | ((refine row_all ?hn ?_); (case hn => first | exact rfl | (simp; done) | (simp; omega)); conv => whnf)
    | ((with_reducible refine le_step ?hn ?_); (case hn => first | exact rfl | assumption | omega); conv => whnf)
    | ((refine ⟨?hx, ?_⟩); (case hx => exact ⟨rfl, Nat.le_of_ble_eq_true rfl, rfl⟩); conv => whnf)
    | ((with_reducible refine ex_step ?_); conv => whnf)
    | ((with_reducible refine both_T ?hx ?_); (case hx => first | exact rfl | assumption | exact notT (by assumption)); conv => whnf)
    | ((with_reducible refine both_F ?hx ?_); (case hx => first | exact rfl | assumption | exact notF (by assumption)); conv => whnf)
    | (revert hF; (with_reducible refine ite_step ?_ ?_) <;> (intro hc hF; conv => whnf))
    | ((with_reducible refine vc_condT ?hx ?_); (case hx => exact rfl))
    | ((with_reducible refine vc_condF ?hx ?_); (case hx => exact rfl))
    | (show retD _ _ _ _ _ _; conv => whnf)
    | ((refine ⟨?hx, trivial⟩); (case hx => (cases hF; exact rfl)))
    | ((refine ⟨?hx, ?_⟩); (case hx => decide); conv => whnf)
    | ((with_reducible refine k_seq ?_))
    | (have hF : (none : Option _) = some _ := hF; cases hF))
end
end Go.Vc
namespace Go.Vc
open Go.Proofs
set_option linter.unusedVariables false
set_option linter.unnecessarySimpa false
set_option linter.unusedSimpArgs false
section
variable {c : Ctx} {p nid : Nat} {a b : Code} {st : St} {K : Ex → St → Prop}
/- f35: tusche/tuschelaw06.meet -/
def f35_c9 : Option (Bool) :=
 some (false)
def Sf35_c9 : Ann := ⟨[], [], [], []⟩
def Vf35_c9 : List SV := []
def Bf35_c9 : List Blk := []
def Yf35_c9 (y : Unit) : List SV := Vf35_c9
def Xf35_c9 (y : Unit) : List Blk := Bf35_c9
def Jf35_c9 (r : Bool) (y : Unit) : Prop := f35_c9 = some r
theorem Cf35_c9 {r : Bool} {g : _ → Option (Bool)} (hn : Nat.beq (nid * 1000 + firstRegion b) 9 = true) (hz : Sf35_c9.ok p = true) (h : g f35_c9 = some r → vc c p nid a st (KHead Sf35_c9 Yf35_c9 Xf35_c9 (Jf35_c9 r) K)) (h2 : ∀ (_ : Unit), f35_c9 = some r → vc c p nid b (St.mk' Sf35_c9 Vf35_c9 Bf35_c9) K) (hF : joinK f35_c9 g = some r) : vc c p nid (.seq a b) st K :=
  vc_cut Sf35_c9 Yf35_c9 Xf35_c9 (Jf35_c9 r) hz (h hF) fun y hy => h2 () hy
theorem Zf35_c9 {r : Bool} (hF : f35_c9 = some r) (h0 : AtH Sf35_c9 st Vf35_c9 Bf35_c9) : KHead Sf35_c9 Yf35_c9 Xf35_c9 (Jf35_c9 r) K .normal st := by
  exact khead (I := (Jf35_c9 r)) (x := ()) hF h0
def f35_c3 (a0 : Label) (a1 : Label) (x5 : Int) (r2 : Int → Option (Bool)) : Option (Bool) :=
 r2 (W (x5 + (1 : Int)))
def Sf35_c3 : Ann := ⟨[2, 3, 5], [0, 1], [], []⟩
def Vf35_c3 (a0 : Label) (a1 : Label) (x5 : Int) : List SV := [.ptr 0 0, .ptr 1 0, .dat (iN x5)]
def Bf35_c3 (a0 : Label) (a1 : Label) (x5 : Int) : List Blk := [.box [.dat (iN a0.X), .dat (iN a0.Y), .dat (iN a0.W), .dat (iN a0.H)], .box [.dat (iN a1.X), .dat (iN a1.Y), .dat (iN a1.W), .dat (iN a1.H)]]
def Yf35_c3 (a0 : Label) (a1 : Label) (x5 : Int) (y : Unit) : List SV := Vf35_c3 a0 a1 x5
def Xf35_c3 (a0 : Label) (a1 : Label) (x5 : Int) (y : Unit) : List Blk := Bf35_c3 a0 a1 x5
def Jf35_c3 (a0 : Label) (a1 : Label) (x5 : Int) (r2 : Int → Option (Bool)) (r : Bool) (y : Unit) : Prop := f35_c3 a0 a1 x5 r2 = some r
theorem Cf35_c3 {r : Bool} {a0 : Label} {a1 : Label} {x5 : Int} {r2 : Int → Option (Bool)} {g : _ → Option (Bool)} (hn : Nat.beq (nid * 1000 + firstRegion b) 3 = true) (hz : Sf35_c3.ok p = true) (h : g (f35_c3 a0 a1 x5 r2) = some r → vc c p nid a st (KHead Sf35_c3 (Yf35_c3 a0 a1 x5) (Xf35_c3 a0 a1 x5) (Jf35_c3 a0 a1 x5 r2 r) K)) (h2 : ∀ (_ : Unit), f35_c3 a0 a1 x5 r2 = some r → vc c p nid b (St.mk' Sf35_c3 (Vf35_c3 a0 a1 x5) (Bf35_c3 a0 a1 x5)) K) (hF : joinK (f35_c3 a0 a1 x5 r2) g = some r) : vc c p nid (.seq a b) st K :=
  vc_cut Sf35_c3 (Yf35_c3 a0 a1 x5) (Xf35_c3 a0 a1 x5) (Jf35_c3 a0 a1 x5 r2 r) hz (h hF) fun y hy => h2 () hy
theorem Zf35_c3 {r : Bool} {a0 : Label} {a1 : Label} {x5 : Int} {r2 : Int → Option (Bool)} (hF : f35_c3 a0 a1 x5 r2 = some r) (h0 : AtH Sf35_c3 st (Vf35_c3 a0 a1 x5) (Bf35_c3 a0 a1 x5)) : KHead Sf35_c3 (Yf35_c3 a0 a1 x5) (Xf35_c3 a0 a1 x5) (Jf35_c3 a0 a1 x5 r2 r) K .normal st := by
  exact khead (I := (Jf35_c3 a0 a1 x5 r2 r)) (x := ()) hF h0
def f35_5b (r5 : Int → Option (Bool)) (a0 : Label) (a1 : Label) (x5 : Int) (k1 : Option (Bool)) (y6 : Int) : Option (Bool) :=
 bif decide (y6 < (W (a0.Y + a0.H))) then (bif decide (a1.X ≤ x5) then (bif decide (x5 < (W (a1.X + a1.W))) then (bif decide (a1.Y ≤ y6) then (bif decide (y6 < (W (a1.Y + a1.H))) then (some (true))
 else (r5 (W (y6 + (1 : Int)))))
 else (r5 (W (y6 + (1 : Int)))))
 else (r5 (W (y6 + (1 : Int)))))
 else (r5 (W (y6 + (1 : Int)))))
 else k1
def f35_5 (a0 : Label) (a1 : Label) (x5 : Int) (k1 : Option (Bool)) : Nat → Int → Option (Bool)
  | 0, _ => none
  | n + 1, y6 => f35_5b (f35_5 a0 a1 x5 k1 n) a0 a1 x5 k1 y6
def Sf35_5 : Ann := ⟨[2, 3, 5, 6], [0, 1], [], []⟩
def Vf35_5 (a0 : Label) (a1 : Label) (x5 : Int) (y6 : Int) : List SV := [.ptr 0 0, .ptr 1 0, .dat (iN x5), .dat (iN y6)]
def Bf35_5 (a0 : Label) (a1 : Label) (x5 : Int) (y6 : Int) : List Blk := [.box [.dat (iN a0.X), .dat (iN a0.Y), .dat (iN a0.W), .dat (iN a0.H)], .box [.dat (iN a1.X), .dat (iN a1.Y), .dat (iN a1.W), .dat (iN a1.H)]]
def Yf35_5 (a0 : Label) (a1 : Label) (x5 : Int) (y : Nat × Int) : List SV := Vf35_5 a0 a1 x5 y.2
def Xf35_5 (a0 : Label) (a1 : Label) (x5 : Int) (y : Nat × Int) : List Blk := Bf35_5 a0 a1 x5 y.2
def Jf35_5 (a0 : Label) (a1 : Label) (x5 : Int) (k1 : Option (Bool)) (r : Bool) (y : Nat × Int) : Prop := f35_5 a0 a1 x5 k1 y.1 y.2 = some r
theorem Lf35_5 {r : Bool} {a0 : Label} {a1 : Label} {x5 : Int} {k1 : Option (Bool)} {fu : Nat} {y6 : Int} (hz : Sf35_5.ok p = true) (h0 : AtH Sf35_5 st (Vf35_5 a0 a1 x5 y6) (Bf35_5 a0 a1 x5 y6)) (h : ∀ (n : Nat) (y6 : Int), f35_5b (f35_5 a0 a1 x5 k1 n) a0 a1 x5 k1 y6 = some r → vc c p nid a (St.mk' Sf35_5 (Vf35_5 a0 a1 x5 y6) (Bf35_5 a0 a1 x5 y6)) (Kloop Sf35_5 (Yf35_5 a0 a1 x5) (Xf35_5 a0 a1 x5) (Jf35_5 a0 a1 x5 k1 r) Prod.fst (n + 1, y6) K)) (hF : f35_5 a0 a1 x5 k1 fu y6 = some r) : vc c p nid (.loop a) st K := by
  refine vc_loop Sf35_5 (Yf35_5 a0 a1 x5) (Xf35_5 a0 a1 x5) (Jf35_5 a0 a1 x5 k1 r) Prod.fst hz (kheadL (x := (fu, y6)) hF h0) ?_
  rintro ⟨_ | n, y6⟩ hI
  · cases hI
  · exact h n y6 hI
theorem Mf35_5 {r : Bool} {a0 : Label} {a1 : Label} {x5 : Int} {k1 : Option (Bool)} {n : Nat} {y6 : Int} {y6_ : Int} (hF : f35_5 a0 a1 x5 k1 n y6 = some r) (h0 : AtH Sf35_5 st (Vf35_5 a0 a1 x5 y6) (Bf35_5 a0 a1 x5 y6)) : Kloop Sf35_5 (Yf35_5 a0 a1 x5) (Xf35_5 a0 a1 x5) (Jf35_5 a0 a1 x5 k1 r) Prod.fst (n + 1, y6_) K .normal st := by
  exact kback (y := (n, y6)) hF (Nat.lt_succ_self n) h0
def f35_2b (r2 : Int → Option (Bool)) (a0 : Label) (a1 : Label) (N : Nat) (k0 : Option (Bool)) (x5 : Int) : Option (Bool) :=
 bif decide (x5 < (W (a0.X + a0.W))) then (joinK (f35_c3 a0 a1 x5 r2) fun k1 =>
 f35_5 a0 a1 x5 k1 N a0.Y)
 else k0
def f35_2 (a0 : Label) (a1 : Label) (N : Nat) (k0 : Option (Bool)) : Nat → Int → Option (Bool)
  | 0, _ => none
  | n + 1, x5 => f35_2b (f35_2 a0 a1 N k0 n) a0 a1 N k0 x5
def Sf35_2 : Ann := ⟨[2, 3, 5], [0, 1], [], []⟩
def Vf35_2 (a0 : Label) (a1 : Label) (x5 : Int) : List SV := [.ptr 0 0, .ptr 1 0, .dat (iN x5)]
def Bf35_2 (a0 : Label) (a1 : Label) (x5 : Int) : List Blk := [.box [.dat (iN a0.X), .dat (iN a0.Y), .dat (iN a0.W), .dat (iN a0.H)], .box [.dat (iN a1.X), .dat (iN a1.Y), .dat (iN a1.W), .dat (iN a1.H)]]
def Yf35_2 (a0 : Label) (a1 : Label) (y : Nat × Int) : List SV := Vf35_2 a0 a1 y.2
def Xf35_2 (a0 : Label) (a1 : Label) (y : Nat × Int) : List Blk := Bf35_2 a0 a1 y.2
def Jf35_2 (a0 : Label) (a1 : Label) (N : Nat) (k0 : Option (Bool)) (r : Bool) (y : Nat × Int) : Prop := f35_2 a0 a1 N k0 y.1 y.2 = some r
theorem Lf35_2 {r : Bool} {a0 : Label} {a1 : Label} {N : Nat} {k0 : Option (Bool)} {fu : Nat} {x5 : Int} (hz : Sf35_2.ok p = true) (h0 : AtH Sf35_2 st (Vf35_2 a0 a1 x5) (Bf35_2 a0 a1 x5)) (h : ∀ (n : Nat) (x5 : Int), f35_2b (f35_2 a0 a1 N k0 n) a0 a1 N k0 x5 = some r → vc c p nid a (St.mk' Sf35_2 (Vf35_2 a0 a1 x5) (Bf35_2 a0 a1 x5)) (Kloop Sf35_2 (Yf35_2 a0 a1) (Xf35_2 a0 a1) (Jf35_2 a0 a1 N k0 r) Prod.fst (n + 1, x5) K)) (hF : f35_2 a0 a1 N k0 fu x5 = some r) : vc c p nid (.loop a) st K := by
  refine vc_loop Sf35_2 (Yf35_2 a0 a1) (Xf35_2 a0 a1) (Jf35_2 a0 a1 N k0 r) Prod.fst hz (kheadL (x := (fu, x5)) hF h0) ?_
  rintro ⟨_ | n, x5⟩ hI
  · cases hI
  · exact h n x5 hI
theorem Mf35_2 {r : Bool} {a0 : Label} {a1 : Label} {N : Nat} {k0 : Option (Bool)} {n : Nat} {x5 : Int} {x5_ : Int} (hF : f35_2 a0 a1 N k0 n x5 = some r) (h0 : AtH Sf35_2 st (Vf35_2 a0 a1 x5) (Bf35_2 a0 a1 x5)) : Kloop Sf35_2 (Yf35_2 a0 a1) (Xf35_2 a0 a1) (Jf35_2 a0 a1 N k0 r) Prod.fst (n + 1, x5_) K .normal st := by
  exact kback (y := (n, x5)) hF (Nat.lt_succ_self n) h0
def f35 (N : Nat) (a0 : Label) (a1 : Label) : Option (Bool) :=
 joinK f35_c9 fun k0 =>
 f35_2 a0 a1 N k0 N a0.X
def G35 (ds : List D) (d : D) : Prop := ∃ (N : Nat) (a0 : Label) (a1 : Label) (r : Bool), ds = [Label.d a0, Label.d a1] ∧ f35 N a0 a1 = some r ∧ d = bN r
theorem G35.step {N : Nat} {a0 : Label} {a1 : Label} {ρ : Type} {A : Bool → Option ρ} {q : ρ} {ds : List D} {K : D → Prop} (hd : ds = [Label.d a0, Label.d a1]) (h : ∀ r, A r = some q → K (bN r)) (hF : (f35 N a0 a1).bind A = some q) : ∃ d, G35 ds d ∧ K d := by
  obtain ⟨r, hr, hA⟩ := bind_some hF
  exact ⟨_, ⟨N, a0, a1, r, hd, hr, rfl⟩, h r hA⟩
set_option maxRecDepth 20000 in
set_option maxHeartbeats 4000000 in
theorem P35 : PureOK Try.prog 35 G35 := by
  refine pure_of_vc (c := mkCtx tyTree []) rfl tyOK (ctx_nil) [[0]] 2 Try.func35 rfl rfl (by decide) (by kernel_rfl) ?_
  rintro ds d ⟨N, a0, a1, r, rfl, hF, rfl⟩ hok
  clear hok
  refine ⟨rfl, ?_⟩
  show vc _ _ _ _ ⟨[(0, .dat (Label.d a0)), (1, .dat (Label.d a1))], []⟩ _
  unfold f35 at hF
  repeat' (first
    | ((with_reducible refine q0 _ _ ?_); clear Q q0 q1 q2)
    | ((with_reducible refine q1 _ _ _ _ ?_); clear Q q0 q1 q2)
    | ((with_reducible refine q2 _ _ _ ?_); clear Q q0 q1 q2)
    | ((with_reducible refine seq_op ?hx (fun Q q0 q1 q2 => ?_)); (case hx => exact rfl); conv => whnf)
    | ((with_reducible refine seq_off ?hx ?_); (case hx => exact rfl))
    | ((with_reducible refine seq_off0 ?hx ?_); (case hx => exact rfl))
    | ((with_reducible refine seq_id ?_); (first | ((refine seq_opK rfl ?hy (fun Q q0 q1 q2 => ?_)); (case hy => first | assumption | exact notT (by assumption) | exact rfl); conv => whnf) | ((refine seq_offK rfl ?hy ?_); (case hy => first | assumption | exact notF (by assumption) | exact rfl)) | ((refine seq_opK0 rfl ?hy (fun Q q0 q1 q2 => ?_)); (case hy => first | assumption | exact notT (by assumption) | exact rfl); conv => whnf) | ((refine seq_offK0 rfl ?hy ?_); (case hy => first | assumption | exact notF (by assumption) | exact rfl)) | (revert hF; (with_reducible refine seq_opF ?hx ?_ ?_); (case hx => exact rfl); (intro hc hF Q q0 q1 q2; conv => whnf); rotate_left; (intro hc hF); rotate_right) | (revert hF; (with_reducible refine seq_opN ?hx ?_ ?_); (case hx => exact rfl); (intro hc hF); rotate_left; (intro hc hF Q q0 q1 q2; conv => whnf); rotate_right) | (revert hF; (with_reducible refine seq_opF0 ?hx ?_ ?_); (case hx => exact rfl); (intro hc hF Q q0 q1 q2; conv => whnf); rotate_left; (intro hc hF); rotate_right) | (revert hF; (with_reducible refine seq_opN0 ?hx ?_ ?_); (case hx => exact rfl); (intro hc hF); rotate_left; (intro hc hF Q q0 q1 q2; conv => whnf); rotate_right)))
    | ((with_reducible refine cond_id ?_); (first | ((refine condKT rfl ?hy ?_); (case hy => first | assumption | exact notT (by assumption) | exact rfl)) | ((refine condKF rfl ?hy ?_); (case hy => first | assumption | exact notF (by assumption) | exact rfl)) | (revert hF; (with_reducible refine condF ?hx ?_ ?_); (case hx => exact rfl); all_goals (intro hc hF))))
    | ((with_reducible refine seq_nil ?_); (first | ((with_reducible refine hR _ ?_); clear R hR) | ((with_reducible refine hL _ ?_); clear L hL)))
    | ((with_reducible refine int_step ?_); conv => whnf)
    | with_reducible refine vc_block ?_
    | with_reducible refine vc_skip ?_
    | with_reducible refine vc_ret ?_
    | with_reducible refine vc_exit ?_
    | ((with_reducible refine vc_seqN [9, 3] ?hx ?_); (case hx => exact rfl))
    | (with_reducible refine vc_region (fun R hR => ?_))
    | fail
    | (revert hF; (refine Cf35_c9 rfl rfl ?_ ?_); (intro hF); rotate_left; (intro _ hF; unfold f35_c9 at hF); rotate_right)
    | exact Zf35_c9 hF ⟨_, rfl, rfl, rfl, rfl⟩
    | (revert hF; (refine Cf35_c3 rfl rfl ?_ ?_); (intro hF); rotate_left; (intro _ hF; unfold f35_c3 at hF); rotate_right)
    | exact Zf35_c3 hF ⟨_, rfl, rfl, rfl, rfl⟩
    | (revert hF; (refine Lf35_5 rfl ⟨_, rfl, rfl, rfl, rfl⟩ ?_); intro n y6 hF; unfold f35_5b at hF)
    | exact Mf35_5 hF ⟨_, rfl, rfl, rfl, rfl⟩
    | (revert hF; (refine Lf35_2 rfl ⟨_, rfl, rfl, rfl, rfl⟩ ?_); intro n x5 hF; unfold f35_2b at hF)
    | exact Mf35_2 hF ⟨_, rfl, rfl, rfl, rfl⟩
    | with_reducible refine k_seq_ret ?_
    | with_reducible refine k_seq_exit ?_
    | with_reducible refine k_blk ?_
    | with_reducible refine k_blk_ret ?_
    | with_reducible refine k_blk_here ?_
    | ((with_reducible refine k_blk_out ?hx ?_); (case hx => exact rfl))
    | with_reducible refine k_loop_ret ?_
    | with_reducible refine k_loop_exit ?_
    | ((refine row_all ?hn ?_); (case hn => first | exact rfl | (simp; done) | (simp; omega)); conv => whnf)
    | ((with_reducible refine le_step ?hn ?_); (case hn => first | exact rfl | assumption | omega); conv => whnf)
    | ((refine ⟨?hx, ?_⟩); (case hx => exact ⟨rfl, Nat.le_of_ble_eq_true rfl, rfl⟩); conv => whnf)
    | ((with_reducible refine ex_step ?_); conv => whnf)
    | ((with_reducible refine both_T ?hx ?_); (case hx => first | exact rfl | assumption | exact notT (by assumption)); conv => whnf)
    | ((with_reducible refine both_F ?hx ?_); (case hx => first | exact rfl | assumption | exact notF (by assumption)); conv => whnf)
    | (revert hF; (with_reducible refine ite_step ?_ ?_) <;> (intro hc hF; conv => whnf))
    | ((with_reducible refine vc_condT ?hx ?_); (case hx => exact rfl))
    | ((with_reducible refine vc_condF ?hx ?_); (case hx => exact rfl))
    | (show retD _ _ _ _ _ _; conv => whnf)
    | ((refine ⟨?hx, trivial⟩); (case hx => (cases hF; exact rfl)))
    | ((refine ⟨?hx, ?_⟩); (case hx => decide); conv => whnf)
    | ((with_reducible refine k_seq ?_))
    | (have hF : (none : Option _) = some _ := hF; cases hF))
end
end Go.Vc
namespace Go.Vc
open Go.Proofs
set_option linter.unusedVariables false
set_option linter.unnecessarySimpa false
set_option linter.unusedSimpArgs false
section
variable {c : Ctx} {p nid : Nat} {a b : Code} {st : St} {K : Ex → St → Prop}
/- f32: (tusche/tuschelaw06.Page).made -/
def f32_c17 (a0 : Page) (b111_2 : List Label) : Option (Layout) :=
 some ((Layout.mk (W ((1 : Int) + (Int.tmod a0.W (6 : Int)))) (W ((1 : Int) + (Int.tmod a0.H (6 : Int)))) b111_2))
def Sf32_c17 : Ann := ⟨[2, 3], [1, 111, 90500], [(.cell 111 2, 90500, 50, 4)], []⟩
def Vf32_c17 (a0 : Page) (b111_2 : List Label) : List SV := [.ptr 1 0, .ptr 111 0]
def Bf32_c17 (a0 : Page) (b111_2 : List Label) : List Blk := [.box [.dat (iN (0 : Int)), .dat (iN (0 : Int)), .nil], .box [.dat (iN (W ((1 : Int) + (Int.tmod a0.W (6 : Int))))), .dat (iN (W ((1 : Int) + (Int.tmod a0.H (6 : Int))))), .rs 90500 (List.length b111_2)], .row 50 4 (List.map Label.d b111_2)]
def Yf32_c17 (a0 : Page) (y : (List Label)) : List SV := Vf32_c17 a0 y
def Xf32_c17 (a0 : Page) (y : (List Label)) : List Blk := Bf32_c17 a0 y
def Jf32_c17 (a0 : Page) (r : Layout) (y : (List Label)) : Prop := f32_c17 a0 y = some r
def V2f32_c17 (a0 : Page) (b111_2 : List Label) (m0 : Nat) : List SV := [.ptr 1 0, .ptr 111 0]
def B2f32_c17 (a0 : Page) (b111_2 : List Label) (m0 : Nat) : List Blk := [.box [.dat (iN (0 : Int)), .dat (iN (0 : Int)), .nil], .box [.dat (iN (W ((1 : Int) + (Int.tmod a0.W (6 : Int))))), .dat (iN (W ((1 : Int) + (Int.tmod a0.H (6 : Int))))), .rs 90500 m0], .row 50 4 (List.map Label.d b111_2)]
theorem Cf32_c17 {r : Layout} {a0 : Page} {g : _ → Option (Layout)} (hn : Nat.beq (nid * 1000 + firstRegion b) 17 = true) (hz : Sf32_c17.ok p = true) (h : g (f32_c17 a0) = some r → vc c p nid a st (KHead Sf32_c17 (Yf32_c17 a0) (Xf32_c17 a0) (Jf32_c17 a0 r) K)) (h2 : ∀ (b111_2 : List Label), f32_c17 a0 b111_2 = some r → vc c p nid b (St.mk' Sf32_c17 (Vf32_c17 a0 b111_2) (Bf32_c17 a0 b111_2)) K) (hF : joinK (f32_c17 a0) g = some r) : vc c p nid (.seq a b) st K :=
  vc_cut Sf32_c17 (Yf32_c17 a0) (Xf32_c17 a0) (Jf32_c17 a0 r) hz (h hF) fun y hy => h2 y hy
theorem Zf32_c17 {r : Layout} {a0 : Page} {b111_2 : List Label} {m0 : Nat} (hF : f32_c17 a0 b111_2 = some r) (h0 : AtH Sf32_c17 st (V2f32_c17 a0 b111_2 m0) (B2f32_c17 a0 b111_2 m0)) (em0 : m0 = List.length b111_2) : KHead Sf32_c17 (Yf32_c17 a0) (Xf32_c17 a0) (Jf32_c17 a0 r) K .normal st := by
  subst em0; exact khead (I := (Jf32_c17 a0 r)) (x := (b111_2)) hF h0
def f32_c16 (a0 : Page) (v24 : Int) (r3 : Int → (List Label) → Option (Layout)) (b111_2' : List Label) : Option (Layout) :=
 r3 (W (v24 + (1 : Int))) (b111_2')
def Sf32_c16 : Ann := ⟨[2, 3, 22, 23, 24], [1, 111, 90500], [(.cell 111 2, 90500, 50, 4)], []⟩
def Vf32_c16 (a0 : Page) (v24 : Int) (b111_2' : List Label) : List SV := [.ptr 1 0, .ptr 111 0, .dat (sl_A4u8N a0.Labels), .dat (iN (List.length a0.Labels : Int)), .dat (iN v24)]
def Bf32_c16 (a0 : Page) (v24 : Int) (b111_2' : List Label) : List Blk := [.box [.dat (iN (0 : Int)), .dat (iN (0 : Int)), .nil], .box [.dat (iN (W ((1 : Int) + (Int.tmod a0.W (6 : Int))))), .dat (iN (W ((1 : Int) + (Int.tmod a0.H (6 : Int))))), .rs 90500 (List.length (b111_2'))], .row 50 4 (List.map Label.d (b111_2'))]
def Yf32_c16 (a0 : Page) (v24 : Int) (y : (List Label)) : List SV := Vf32_c16 a0 v24 y
def Xf32_c16 (a0 : Page) (v24 : Int) (y : (List Label)) : List Blk := Bf32_c16 a0 v24 y
def Jf32_c16 (a0 : Page) (v24 : Int) (r3 : Int → (List Label) → Option (Layout)) (r : Layout) (y : (List Label)) : Prop := f32_c16 a0 v24 r3 y = some r
def V2f32_c16 (a0 : Page) (v24 : Int) (b111_2' : List Label) (m0 : Nat) : List SV := [.ptr 1 0, .ptr 111 0, .dat (sl_A4u8N a0.Labels), .dat (iN (List.length a0.Labels : Int)), .dat (iN v24)]
def B2f32_c16 (a0 : Page) (v24 : Int) (b111_2' : List Label) (m0 : Nat) : List Blk := [.box [.dat (iN (0 : Int)), .dat (iN (0 : Int)), .nil], .box [.dat (iN (W ((1 : Int) + (Int.tmod a0.W (6 : Int))))), .dat (iN (W ((1 : Int) + (Int.tmod a0.H (6 : Int))))), .rs 90500 m0], .row 50 4 (List.map Label.d (b111_2'))]
theorem Cf32_c16 {r : Layout} {a0 : Page} {v24 : Int} {r3 : Int → (List Label) → Option (Layout)} {g : _ → Option (Layout)} (hn : Nat.beq (nid * 1000 + firstRegion b) 16 = true) (hz : Sf32_c16.ok p = true) (h : g (f32_c16 a0 v24 r3) = some r → vc c p nid a st (KHead Sf32_c16 (Yf32_c16 a0 v24) (Xf32_c16 a0 v24) (Jf32_c16 a0 v24 r3 r) K)) (h2 : ∀ (b111_2' : List Label), f32_c16 a0 v24 r3 b111_2' = some r → vc c p nid b (St.mk' Sf32_c16 (Vf32_c16 a0 v24 b111_2') (Bf32_c16 a0 v24 b111_2')) K) (hF : joinK (f32_c16 a0 v24 r3) g = some r) : vc c p nid (.seq a b) st K :=
  vc_cut Sf32_c16 (Yf32_c16 a0 v24) (Xf32_c16 a0 v24) (Jf32_c16 a0 v24 r3 r) hz (h hF) fun y hy => h2 y hy
theorem Zf32_c16 {r : Layout} {a0 : Page} {v24 : Int} {r3 : Int → (List Label) → Option (Layout)} {b111_2' : List Label} {m0 : Nat} (hF : f32_c16 a0 v24 r3 b111_2' = some r) (h0 : AtH Sf32_c16 st (V2f32_c16 a0 v24 b111_2' m0) (B2f32_c16 a0 v24 b111_2' m0)) (em0 : m0 = List.length (b111_2')) : KHead Sf32_c16 (Yf32_c16 a0 v24) (Xf32_c16 a0 v24) (Jf32_c16 a0 v24 r3 r) K .normal st := by
  subst em0; exact khead (I := (Jf32_c16 a0 v24 r3 r)) (x := (b111_2')) hF h0
def f32_c14 (a0 : Page) (v24 : Int) (b111_2 : List Label) (k1 : (List Label) → Option (Layout)) (x1 : A4u8N) (v7 : Bool) : Option (Layout) :=
 bif v7 then ((app 32 b111_2 [(Label.mk (Int.tmod x1.e0 (W ((1 : Int) + (Int.tmod a0.W (6 : Int))))) (Int.tmod x1.e1 (W ((1 : Int) + (Int.tmod a0.H (6 : Int))))) (W ((1 : Int) + (Int.tmod x1.e2 (W ((W ((1 : Int) + (Int.tmod a0.W (6 : Int)))) - (Int.tmod x1.e0 (W ((1 : Int) + (Int.tmod a0.W (6 : Int)))))))))) (W ((1 : Int) + (Int.tmod x1.e3 (W ((W ((1 : Int) + (Int.tmod a0.H (6 : Int)))) - (Int.tmod x1.e1 (W ((1 : Int) + (Int.tmod a0.H (6 : Int)))))))))))]).bind fun x2 =>
 k1 x2)
 else (k1 b111_2)
def Sf32_c14 : Ann := ⟨[2, 3, 6, 7, 22, 23, 24], [1, 111, 613, 90500], [], []⟩
def Vf32_c14 (a0 : Page) (v24 : Int) (b111_2 : List Label) (x1 : A4u8N) (v7 : Bool) : List SV := [.ptr 1 0, .ptr 111 0, .ptr 613 0, .kb v7, .dat (sl_A4u8N a0.Labels), .dat (iN (List.length a0.Labels : Int)), .dat (iN v24)]
def Bf32_c14 (a0 : Page) (v24 : Int) (b111_2 : List Label) (x1 : A4u8N) (v7 : Bool) : List Blk := [.box [.dat (iN (0 : Int)), .dat (iN (0 : Int)), .nil], .box [.dat (iN (W ((1 : Int) + (Int.tmod a0.W (6 : Int))))), .dat (iN (W ((1 : Int) + (Int.tmod a0.H (6 : Int))))), .rs 90500 (List.length b111_2)], .box [.dat (iN (Int.tmod x1.e0 (W ((1 : Int) + (Int.tmod a0.W (6 : Int)))))), .dat (iN (Int.tmod x1.e1 (W ((1 : Int) + (Int.tmod a0.H (6 : Int)))))), .dat (iN (W ((1 : Int) + (Int.tmod x1.e2 (W ((W ((1 : Int) + (Int.tmod a0.W (6 : Int)))) - (Int.tmod x1.e0 (W ((1 : Int) + (Int.tmod a0.W (6 : Int))))))))))), .dat (iN (W ((1 : Int) + (Int.tmod x1.e3 (W ((W ((1 : Int) + (Int.tmod a0.H (6 : Int)))) - (Int.tmod x1.e1 (W ((1 : Int) + (Int.tmod a0.H (6 : Int)))))))))))], .row 50 4 (List.map Label.d b111_2)]
def Yf32_c14 (a0 : Page) (v24 : Int) (b111_2 : List Label) (x1 : A4u8N) (y : Bool) : List SV := Vf32_c14 a0 v24 b111_2 x1 y
def Xf32_c14 (a0 : Page) (v24 : Int) (b111_2 : List Label) (x1 : A4u8N) (y : Bool) : List Blk := Bf32_c14 a0 v24 b111_2 x1 y
def Jf32_c14 (a0 : Page) (v24 : Int) (b111_2 : List Label) (k1 : (List Label) → Option (Layout)) (x1 : A4u8N) (r : Layout) (y : Bool) : Prop := f32_c14 a0 v24 b111_2 k1 x1 y = some r
def V2f32_c14 (a0 : Page) (v24 : Int) (b111_2 : List Label) (x1 : A4u8N) (v7 : Bool) (m0 : Nat) : List SV := [.ptr 1 0, .ptr 111 0, .ptr 613 0, .kb v7, .dat (sl_A4u8N a0.Labels), .dat (iN (List.length a0.Labels : Int)), .dat (iN v24)]
def B2f32_c14 (a0 : Page) (v24 : Int) (b111_2 : List Label) (x1 : A4u8N) (v7 : Bool) (m0 : Nat) : List Blk := [.box [.dat (iN (0 : Int)), .dat (iN (0 : Int)), .nil], .box [.dat (iN (W ((1 : Int) + (Int.tmod a0.W (6 : Int))))), .dat (iN (W ((1 : Int) + (Int.tmod a0.H (6 : Int))))), .rs 90500 m0], .box [.dat (iN (Int.tmod x1.e0 (W ((1 : Int) + (Int.tmod a0.W (6 : Int)))))), .dat (iN (Int.tmod x1.e1 (W ((1 : Int) + (Int.tmod a0.H (6 : Int)))))), .dat (iN (W ((1 : Int) + (Int.tmod x1.e2 (W ((W ((1 : Int) + (Int.tmod a0.W (6 : Int)))) - (Int.tmod x1.e0 (W ((1 : Int) + (Int.tmod a0.W (6 : Int))))))))))), .dat (iN (W ((1 : Int) + (Int.tmod x1.e3 (W ((W ((1 : Int) + (Int.tmod a0.H (6 : Int)))) - (Int.tmod x1.e1 (W ((1 : Int) + (Int.tmod a0.H (6 : Int)))))))))))], .row 50 4 (List.map Label.d b111_2)]
theorem Cf32_c14 {r : Layout} {a0 : Page} {v24 : Int} {b111_2 : List Label} {k1 : (List Label) → Option (Layout)} {x1 : A4u8N} {g : _ → Option (Layout)} (hn : Nat.beq (nid * 1000 + firstRegion b) 14 = true) (hz : Sf32_c14.ok p = true) (h : g (f32_c14 a0 v24 b111_2 k1 x1) = some r → vc c p nid a st (KHead Sf32_c14 (Yf32_c14 a0 v24 b111_2 x1) (Xf32_c14 a0 v24 b111_2 x1) (Jf32_c14 a0 v24 b111_2 k1 x1 r) K)) (h2 : ∀ (v7 : Bool), f32_c14 a0 v24 b111_2 k1 x1 v7 = some r → vc c p nid b (St.mk' Sf32_c14 (Vf32_c14 a0 v24 b111_2 x1 v7) (Bf32_c14 a0 v24 b111_2 x1 v7)) K) (hF : joinK (f32_c14 a0 v24 b111_2 k1 x1) g = some r) : vc c p nid (.seq a b) st K :=
  vc_cut Sf32_c14 (Yf32_c14 a0 v24 b111_2 x1) (Xf32_c14 a0 v24 b111_2 x1) (Jf32_c14 a0 v24 b111_2 k1 x1 r) hz (h hF) fun y hy => h2 y hy
theorem Zf32_c14 {r : Layout} {a0 : Page} {v24 : Int} {b111_2 : List Label} {k1 : (List Label) → Option (Layout)} {x1 : A4u8N} {v7 : Bool} {m0 : Nat} (hF : f32_c14 a0 v24 b111_2 k1 x1 v7 = some r) (h0 : AtH Sf32_c14 st (V2f32_c14 a0 v24 b111_2 x1 v7 m0) (B2f32_c14 a0 v24 b111_2 x1 v7 m0)) (em0 : m0 = List.length b111_2) : KHead Sf32_c14 (Yf32_c14 a0 v24 b111_2 x1) (Xf32_c14 a0 v24 b111_2 x1) (Jf32_c14 a0 v24 b111_2 k1 x1 r) K .normal st := by
  subst em0; exact khead (I := (Jf32_c14 a0 v24 b111_2 k1 x1 r)) (x := (v7)) hF h0
def f32_10b (r10 : Bool → Int → Option (Layout)) (a0 : Page) (N : Nat) (v24 : Int) (b111_2 : List Label) (x1 : A4u8N) (k2 : Bool → Option (Layout)) (v7 : Bool) (v70 : Int) : Option (Layout) :=
 bif decide (v70 < (List.length b111_2 : Int)) then ((ix b111_2 v70).bind fun x3 =>
 bif v7 then ((f35 N (Label.mk (Int.tmod x1.e0 (W ((1 : Int) + (Int.tmod a0.W (6 : Int))))) (Int.tmod x1.e1 (W ((1 : Int) + (Int.tmod a0.H (6 : Int))))) (W ((1 : Int) + (Int.tmod x1.e2 (W ((W ((1 : Int) + (Int.tmod a0.W (6 : Int)))) - (Int.tmod x1.e0 (W ((1 : Int) + (Int.tmod a0.W (6 : Int)))))))))) (W ((1 : Int) + (Int.tmod x1.e3 (W ((W ((1 : Int) + (Int.tmod a0.H (6 : Int)))) - (Int.tmod x1.e1 (W ((1 : Int) + (Int.tmod a0.H (6 : Int))))))))))) x3).bind fun x4 =>
 r10 (!x4) (W (v70 + (1 : Int))))
 else (r10 false (W (v70 + (1 : Int)))))
 else (k2 v7)
def f32_10 (a0 : Page) (N : Nat) (v24 : Int) (b111_2 : List Label) (x1 : A4u8N) (k2 : Bool → Option (Layout)) : Nat → Bool → Int → Option (Layout)
  | 0, _, _ => none
  | n + 1, v7, v70 => f32_10b (f32_10 a0 N v24 b111_2 x1 k2 n) a0 N v24 b111_2 x1 k2 v7 v70
def Sf32_10 : Ann := ⟨[2, 3, 6, 7, 22, 23, 24, 68, 69, 70], [1, 111, 613, 90500], [], []⟩
def Vf32_10 (a0 : Page) (v24 : Int) (b111_2 : List Label) (x1 : A4u8N) (v7 : Bool) (v70 : Int) : List SV := [.ptr 1 0, .ptr 111 0, .ptr 613 0, .kb v7, .dat (sl_A4u8N a0.Labels), .dat (iN (List.length a0.Labels : Int)), .dat (iN v24), .rs 90500 (List.length b111_2), .dat (iN (List.length b111_2 : Int)), .dat (iN v70)]
def Bf32_10 (a0 : Page) (v24 : Int) (b111_2 : List Label) (x1 : A4u8N) (v7 : Bool) (v70 : Int) : List Blk := [.box [.dat (iN (0 : Int)), .dat (iN (0 : Int)), .nil], .box [.dat (iN (W ((1 : Int) + (Int.tmod a0.W (6 : Int))))), .dat (iN (W ((1 : Int) + (Int.tmod a0.H (6 : Int))))), .rs 90500 (List.length b111_2)], .box [.dat (iN (Int.tmod x1.e0 (W ((1 : Int) + (Int.tmod a0.W (6 : Int)))))), .dat (iN (Int.tmod x1.e1 (W ((1 : Int) + (Int.tmod a0.H (6 : Int)))))), .dat (iN (W ((1 : Int) + (Int.tmod x1.e2 (W ((W ((1 : Int) + (Int.tmod a0.W (6 : Int)))) - (Int.tmod x1.e0 (W ((1 : Int) + (Int.tmod a0.W (6 : Int))))))))))), .dat (iN (W ((1 : Int) + (Int.tmod x1.e3 (W ((W ((1 : Int) + (Int.tmod a0.H (6 : Int)))) - (Int.tmod x1.e1 (W ((1 : Int) + (Int.tmod a0.H (6 : Int)))))))))))], .row 50 4 (List.map Label.d b111_2)]
def Yf32_10 (a0 : Page) (v24 : Int) (b111_2 : List Label) (x1 : A4u8N) (y : Nat × Bool × Int) : List SV := Vf32_10 a0 v24 b111_2 x1 y.2.1 y.2.2
def Xf32_10 (a0 : Page) (v24 : Int) (b111_2 : List Label) (x1 : A4u8N) (y : Nat × Bool × Int) : List Blk := Bf32_10 a0 v24 b111_2 x1 y.2.1 y.2.2
def Jf32_10 (a0 : Page) (N : Nat) (v24 : Int) (b111_2 : List Label) (x1 : A4u8N) (k2 : Bool → Option (Layout)) (r : Layout) (y : Nat × Bool × Int) : Prop := f32_10 a0 N v24 b111_2 x1 k2 y.1 y.2.1 y.2.2 = some r
def V2f32_10 (a0 : Page) (v24 : Int) (b111_2 : List Label) (x1 : A4u8N) (v7 : Bool) (v70 : Int) (m0 : Nat) (m1 : Nat) : List SV := [.ptr 1 0, .ptr 111 0, .ptr 613 0, .kb v7, .dat (sl_A4u8N a0.Labels), .dat (iN (List.length a0.Labels : Int)), .dat (iN v24), .rs 90500 m0, .dat (iN (List.length b111_2 : Int)), .dat (iN v70)]
def B2f32_10 (a0 : Page) (v24 : Int) (b111_2 : List Label) (x1 : A4u8N) (v7 : Bool) (v70 : Int) (m0 : Nat) (m1 : Nat) : List Blk := [.box [.dat (iN (0 : Int)), .dat (iN (0 : Int)), .nil], .box [.dat (iN (W ((1 : Int) + (Int.tmod a0.W (6 : Int))))), .dat (iN (W ((1 : Int) + (Int.tmod a0.H (6 : Int))))), .rs 90500 m1], .box [.dat (iN (Int.tmod x1.e0 (W ((1 : Int) + (Int.tmod a0.W (6 : Int)))))), .dat (iN (Int.tmod x1.e1 (W ((1 : Int) + (Int.tmod a0.H (6 : Int)))))), .dat (iN (W ((1 : Int) + (Int.tmod x1.e2 (W ((W ((1 : Int) + (Int.tmod a0.W (6 : Int)))) - (Int.tmod x1.e0 (W ((1 : Int) + (Int.tmod a0.W (6 : Int))))))))))), .dat (iN (W ((1 : Int) + (Int.tmod x1.e3 (W ((W ((1 : Int) + (Int.tmod a0.H (6 : Int)))) - (Int.tmod x1.e1 (W ((1 : Int) + (Int.tmod a0.H (6 : Int)))))))))))], .row 50 4 (List.map Label.d b111_2)]
theorem Lf32_10 {r : Layout} {a0 : Page} {N : Nat} {v24 : Int} {b111_2 : List Label} {x1 : A4u8N} {k2 : Bool → Option (Layout)} {fu : Nat} {v7 : Bool} {v70 : Int} {m0 : Nat} {m1 : Nat} (hz : Sf32_10.ok p = true) (h0 : AtH Sf32_10 st (V2f32_10 a0 v24 b111_2 x1 v7 v70 m0 m1) (B2f32_10 a0 v24 b111_2 x1 v7 v70 m0 m1)) (em0 : m0 = List.length b111_2) (em1 : m1 = List.length b111_2) (h : ∀ (n : Nat) (v7 : Bool) (v70 : Int), f32_10b (f32_10 a0 N v24 b111_2 x1 k2 n) a0 N v24 b111_2 x1 k2 v7 v70 = some r → vc c p nid a (St.mk' Sf32_10 (Vf32_10 a0 v24 b111_2 x1 v7 v70) (Bf32_10 a0 v24 b111_2 x1 v7 v70)) (Kloop Sf32_10 (Yf32_10 a0 v24 b111_2 x1) (Xf32_10 a0 v24 b111_2 x1) (Jf32_10 a0 N v24 b111_2 x1 k2 r) Prod.fst (n + 1, v7, v70) K)) (hF : f32_10 a0 N v24 b111_2 x1 k2 fu v7 v70 = some r) : vc c p nid (.loop a) st K := by
  subst em0 em1; refine vc_loop Sf32_10 (Yf32_10 a0 v24 b111_2 x1) (Xf32_10 a0 v24 b111_2 x1) (Jf32_10 a0 N v24 b111_2 x1 k2 r) Prod.fst hz (kheadL (x := (fu, v7, v70)) hF h0) ?_
  rintro ⟨_ | n, v7, v70⟩ hI
  · cases hI
  · exact h n v7 v70 hI
theorem Mf32_10 {r : Layout} {a0 : Page} {N : Nat} {v24 : Int} {b111_2 : List Label} {x1 : A4u8N} {k2 : Bool → Option (Layout)} {n : Nat} {v7 : Bool} {v70 : Int} {v7_ : Bool} {v70_ : Int} {m0 : Nat} {m1 : Nat} (hF : f32_10 a0 N v24 b111_2 x1 k2 n v7 v70 = some r) (h0 : AtH Sf32_10 st (V2f32_10 a0 v24 b111_2 x1 v7 v70 m0 m1) (B2f32_10 a0 v24 b111_2 x1 v7 v70 m0 m1)) (em0 : m0 = List.length b111_2) (em1 : m1 = List.length b111_2) : Kloop Sf32_10 (Yf32_10 a0 v24 b111_2 x1) (Xf32_10 a0 v24 b111_2 x1) (Jf32_10 a0 N v24 b111_2 x1 k2 r) Prod.fst (n + 1, v7_, v70_) K .normal st := by
  subst em0 em1; exact kback (y := (n, v7, v70)) hF (Nat.lt_succ_self n) h0
def f32_3b (r3 : Int → (List Label) → Option (Layout)) (a0 : Page) (N : Nat) (k0 : (List Label) → Option (Layout)) (v24 : Int) (b111_2 : List Label) : Option (Layout) :=
 bif decide (v24 < (List.length a0.Labels : Int)) then (joinK (f32_c16 a0 v24 r3) fun k1 =>
 (ix a0.Labels v24).bind fun x1 =>
 bif decide ((List.length b111_2 : Int) = (7 : Int)) then (k0 b111_2)
 else ((chk (decide ((W ((1 : Int) + (Int.tmod a0.W (6 : Int)))) ≠ 0))).bind fun _ =>
 (chk (decide ((W ((1 : Int) + (Int.tmod a0.H (6 : Int)))) ≠ 0))).bind fun _ =>
 (chk (decide ((W ((W ((1 : Int) + (Int.tmod a0.W (6 : Int)))) - (Int.tmod x1.e0 (W ((1 : Int) + (Int.tmod a0.W (6 : Int))))))) ≠ 0))).bind fun _ =>
 (chk (decide ((W ((W ((1 : Int) + (Int.tmod a0.H (6 : Int)))) - (Int.tmod x1.e1 (W ((1 : Int) + (Int.tmod a0.H (6 : Int))))))) ≠ 0))).bind fun _ =>
 joinK (f32_c14 a0 v24 b111_2 k1 x1) fun k2 =>
 f32_10 a0 N v24 b111_2 x1 k2 N true (0 : Int)))
 else (k0 b111_2)
def f32_3 (a0 : Page) (N : Nat) (k0 : (List Label) → Option (Layout)) : Nat → Int → (List Label) → Option (Layout)
  | 0, _, _ => none
  | n + 1, v24, b111_2 => f32_3b (f32_3 a0 N k0 n) a0 N k0 v24 b111_2
def Sf32_3 : Ann := ⟨[2, 3, 22, 23, 24], [1, 111, 90500], [(.cell 111 2, 90500, 50, 4)], []⟩
def Vf32_3 (a0 : Page) (v24 : Int) (b111_2 : List Label) : List SV := [.ptr 1 0, .ptr 111 0, .dat (sl_A4u8N a0.Labels), .dat (iN (List.length a0.Labels : Int)), .dat (iN v24)]
def Bf32_3 (a0 : Page) (v24 : Int) (b111_2 : List Label) : List Blk := [.box [.dat (iN (0 : Int)), .dat (iN (0 : Int)), .nil], .box [.dat (iN (W ((1 : Int) + (Int.tmod a0.W (6 : Int))))), .dat (iN (W ((1 : Int) + (Int.tmod a0.H (6 : Int))))), .rs 90500 (List.length b111_2)], .row 50 4 (List.map Label.d b111_2)]
def Yf32_3 (a0 : Page) (y : Nat × Int × (List Label)) : List SV := Vf32_3 a0 y.2.1 y.2.2
def Xf32_3 (a0 : Page) (y : Nat × Int × (List Label)) : List Blk := Bf32_3 a0 y.2.1 y.2.2
def Jf32_3 (a0 : Page) (N : Nat) (k0 : (List Label) → Option (Layout)) (r : Layout) (y : Nat × Int × (List Label)) : Prop := f32_3 a0 N k0 y.1 y.2.1 y.2.2 = some r
def V2f32_3 (a0 : Page) (v24 : Int) (b111_2 : List Label) (m0 : Nat) : List SV := [.ptr 1 0, .ptr 111 0, .dat (sl_A4u8N a0.Labels), .dat (iN (List.length a0.Labels : Int)), .dat (iN v24)]
def B2f32_3 (a0 : Page) (v24 : Int) (b111_2 : List Label) (m0 : Nat) : List Blk := [.box [.dat (iN (0 : Int)), .dat (iN (0 : Int)), .nil], .box [.dat (iN (W ((1 : Int) + (Int.tmod a0.W (6 : Int))))), .dat (iN (W ((1 : Int) + (Int.tmod a0.H (6 : Int))))), .rs 90500 m0], .row 50 4 (List.map Label.d b111_2)]
theorem Lf32_3 {r : Layout} {a0 : Page} {N : Nat} {k0 : (List Label) → Option (Layout)} {fu : Nat} {v24 : Int} {b111_2 : List Label} {m0 : Nat} (hz : Sf32_3.ok p = true) (h0 : AtH Sf32_3 st (V2f32_3 a0 v24 b111_2 m0) (B2f32_3 a0 v24 b111_2 m0)) (em0 : m0 = List.length b111_2) (h : ∀ (n : Nat) (v24 : Int) (b111_2 : List Label), f32_3b (f32_3 a0 N k0 n) a0 N k0 v24 b111_2 = some r → vc c p nid a (St.mk' Sf32_3 (Vf32_3 a0 v24 b111_2) (Bf32_3 a0 v24 b111_2)) (Kloop Sf32_3 (Yf32_3 a0) (Xf32_3 a0) (Jf32_3 a0 N k0 r) Prod.fst (n + 1, v24, b111_2) K)) (hF : f32_3 a0 N k0 fu v24 b111_2 = some r) : vc c p nid (.loop a) st K := by
  subst em0; refine vc_loop Sf32_3 (Yf32_3 a0) (Xf32_3 a0) (Jf32_3 a0 N k0 r) Prod.fst hz (kheadL (x := (fu, v24, b111_2)) hF h0) ?_
  rintro ⟨_ | n, v24, b111_2⟩ hI
  · cases hI
  · exact h n v24 b111_2 hI
theorem Mf32_3 {r : Layout} {a0 : Page} {N : Nat} {k0 : (List Label) → Option (Layout)} {n : Nat} {v24 : Int} {b111_2 : List Label} {v24_ : Int} {b111_2_ : List Label} {m0 : Nat} (hF : f32_3 a0 N k0 n v24 b111_2 = some r) (h0 : AtH Sf32_3 st (V2f32_3 a0 v24 b111_2 m0) (B2f32_3 a0 v24 b111_2 m0)) (em0 : m0 = List.length b111_2) : Kloop Sf32_3 (Yf32_3 a0) (Xf32_3 a0) (Jf32_3 a0 N k0 r) Prod.fst (n + 1, v24_, b111_2_) K .normal st := by
  subst em0; exact kback (y := (n, v24, b111_2)) hF (Nat.lt_succ_self n) h0
def f32 (N : Nat) (a0 : Page) : Option (Layout) :=
 joinK (f32_c17 a0) fun k0 =>
 f32_3 a0 N k0 N (0 : Int) []
def G32 (ds : List D) (d : D) : Prop := ∃ (N : Nat) (a0 : Page) (r : Layout), ds = [Page.d a0] ∧ f32 N a0 = some r ∧ d = Layout.d r
theorem G32.step {N : Nat} {a0 : Page} {ρ : Type} {A : Layout → Option ρ} {q : ρ} {ds : List D} {K : D → Prop} (hd : ds = [Page.d a0]) (h : ∀ r, A r = some q → K (Layout.d r)) (hF : (f32 N a0).bind A = some q) : ∃ d, G32 ds d ∧ K d := by
  obtain ⟨r, hr, hA⟩ := bind_some hF
  exact ⟨_, ⟨N, a0, r, hd, hr, rfl⟩, h r hA⟩
set_option maxRecDepth 20000 in
set_option maxHeartbeats 4000000 in
theorem P32 : PureOK Try.prog 32 G32 := by
  refine pure_of_vc (c := mkCtx tyTree [(35, true, purePg [[0, 0, 0, 0], [0, 0, 0, 0]] G35)]) rfl tyOK (ctx_cons (callable Try.func35 rfl rfl) P35 (ctx_nil)) [[0, 0, 4]] 1 Try.func32 rfl rfl (by decide) (by kernel_rfl) ?_
  rintro ds d ⟨N, a0, r, rfl, hF, rfl⟩ hok
  clear hok
  refine ⟨rfl, ?_⟩
  show vc _ _ _ _ ⟨[(0, .dat (Page.d a0))], []⟩ _
  unfold f32 at hF
  repeat' (first
    | ((with_reducible refine q0 _ _ ?_); clear Q q0 q1 q2)
    | ((with_reducible refine q1 _ _ _ _ ?_); clear Q q0 q1 q2)
    | ((with_reducible refine q2 _ _ _ ?_); clear Q q0 q1 q2)
    | ((with_reducible refine seq_op ?hx (fun Q q0 q1 q2 => ?_)); (case hx => exact rfl); conv => whnf)
    | ((with_reducible refine draw_op ?hx (fun Q q0 q1 q2 => ?_)); (case hx => exact rfl); conv => whnf)
    | ((with_reducible refine seq_op0 ?hx (fun Q q0 q1 q2 => ?_)); (case hx => exact rfl); conv => whnf)
    | ((with_reducible refine draw_op0 ?hx (fun Q q0 q1 q2 => ?_)); (case hx => exact rfl); conv => whnf)
    | ((with_reducible refine seq_off ?hx ?_); (case hx => exact rfl))
    | ((with_reducible refine seq_off0 ?hx ?_); (case hx => exact rfl))
    | ((with_reducible refine draw_off ?hx ?_); (case hx => exact rfl))
    | ((with_reducible refine draw_off0 ?hx ?_); (case hx => exact rfl))
    | ((with_reducible refine seq_id ?_); (first | ((refine seq_opK rfl ?hy (fun Q q0 q1 q2 => ?_)); (case hy => first | assumption | exact notT (by assumption) | exact rfl); conv => whnf) | ((refine seq_offK rfl ?hy ?_); (case hy => first | assumption | exact notF (by assumption) | exact rfl)) | ((refine seq_opK0 rfl ?hy (fun Q q0 q1 q2 => ?_)); (case hy => first | assumption | exact notT (by assumption) | exact rfl); conv => whnf) | ((refine seq_offK0 rfl ?hy ?_); (case hy => first | assumption | exact notF (by assumption) | exact rfl)) | (revert hF; (with_reducible refine seq_opF ?hx ?_ ?_); (case hx => exact rfl); (intro hc hF Q q0 q1 q2; conv => whnf); rotate_left; (intro hc hF); rotate_right) | (revert hF; (with_reducible refine seq_opN ?hx ?_ ?_); (case hx => exact rfl); (intro hc hF); rotate_left; (intro hc hF Q q0 q1 q2; conv => whnf); rotate_right) | (revert hF; (with_reducible refine seq_opF0 ?hx ?_ ?_); (case hx => exact rfl); (intro hc hF Q q0 q1 q2; conv => whnf); rotate_left; (intro hc hF); rotate_right) | (revert hF; (with_reducible refine seq_opN0 ?hx ?_ ?_); (case hx => exact rfl); (intro hc hF); rotate_left; (intro hc hF Q q0 q1 q2; conv => whnf); rotate_right)))
    | ((with_reducible refine cond_id ?_); (first | ((refine condKT rfl ?hy ?_); (case hy => first | assumption | exact notT (by assumption) | exact rfl)) | ((refine condKF rfl ?hy ?_); (case hy => first | assumption | exact notF (by assumption) | exact rfl)) | (revert hF; (with_reducible refine condF ?hx ?_ ?_); (case hx => exact rfl); all_goals (intro hc hF))))
    | ((with_reducible refine seq_nil ?_); (first | ((with_reducible refine hR _ ?_); clear R hR) | ((with_reducible refine hL _ ?_); clear L hL)))
    | ((with_reducible refine draw_nil ?_); (with_reducible refine hR _ _ ?hx ?_); (case hx => kernel_rfl); (first | clear R hR | clear hR))
    | ((with_reducible refine int_step ?_); conv => whnf)
    | ((with_reducible refine len_step ?_); conv => whnf)
    | ((with_reducible refine idx2 (by assumption) ?_); conv => whnf)
    | ((with_reducible refine idx3 (by assumption) ?_); conv => whnf)
    | with_reducible refine vc_block ?_
    | with_reducible refine vc_skip ?_
    | with_reducible refine vc_ret ?_
    | with_reducible refine vc_exit ?_
    | ((with_reducible refine vc_seqN [17, 16, 14] ?hx ?_); (case hx => exact rfl))
    | (with_reducible refine vc_region (fun R hR => ?_))
    | ((with_reducible refine vc_draw ?hx (fun R hR => ?_)); (case hx => exact rfl))
    | fail
    | (revert hF; (refine Cf32_c17 rfl rfl ?_ ?_); (intro hF); rotate_left; (intro b111_2 hF; unfold f32_c17 at hF); rotate_right)
    | exact Zf32_c17 hF ⟨_, rfl, rfl, rfl, rfl⟩ (by first | exact rfl | assumption | omega)
    | (revert hF; (refine Cf32_c16 rfl rfl ?_ ?_); (intro hF); rotate_left; (intro b111_2' hF; unfold f32_c16 at hF); rotate_right)
    | exact Zf32_c16 hF ⟨_, rfl, rfl, rfl, rfl⟩ (by first | exact rfl | assumption | omega)
    | (revert hF; (refine Cf32_c14 rfl rfl ?_ ?_); (intro hF); rotate_left; (intro v7 hF; unfold f32_c14 at hF); rotate_right)
    | exact Zf32_c14 hF ⟨_, rfl, rfl, rfl, rfl⟩ (by first | exact rfl | assumption | omega)
    | (revert hF; (refine Lf32_10 rfl ⟨_, rfl, rfl, rfl, rfl⟩ (by first | exact rfl | assumption | omega) (by first | exact rfl | assumption | omega) ?_); intro n v7 v70 hF; unfold f32_10b at hF)
    | exact Mf32_10 hF ⟨_, rfl, rfl, rfl, rfl⟩ (by first | exact rfl | assumption | omega) (by first | exact rfl | assumption | omega)
    | (revert hF; (refine Lf32_3 rfl ⟨_, rfl, rfl, rfl, rfl⟩ (by first | exact rfl | assumption | omega) ?_); intro n v24 b111_2 hF; unfold f32_3b at hF)
    | exact Mf32_3 hF ⟨_, rfl, rfl, rfl, rfl⟩ (by first | exact rfl | assumption | omega)
    | (revert hF; (with_reducible refine G35.step ?hx ?_); (case hx => exact rfl); intro v hF; conv => whnf)
    | with_reducible refine k_seq_ret ?_
    | with_reducible refine k_seq_exit ?_
    | with_reducible refine k_blk ?_
    | with_reducible refine k_blk_ret ?_
    | with_reducible refine k_blk_here ?_
    | ((with_reducible refine k_blk_out ?hx ?_); (case hx => exact rfl))
    | with_reducible refine k_loop_ret ?_
    | with_reducible refine k_loop_exit ?_
    | (revert hF; (with_reducible refine idx1 ?hn ?_); (case hn => first | exact rfl | exact (List.length_map _) | assumption | omega | simp); intro x hx hF; conv => whnf)
    | ((with_reducible have hG := app_fact hF); clear hF; (first | ((refine app_row hG ?hn ?hs (fun q hF => ?_)); (case hn => first | exact rfl | assumption | omega); (case hs => exact rfl)) | ((refine app_nil (d := Label.d) hG ?hs (fun q hF => ?_)); (case hs => exact rfl)) | ((refine app_gen (d := Label.d) hG ?ho ?hn ?hs (fun q hF => ?_)); (case ho => exact rfl); (case hn => exact rfl); (case hs => exact rfl))); clear hG; conv => whnf)
    | ((refine row_all ?hn ?_); (case hn => first | exact rfl | (simp; done) | (simp; omega)); conv => whnf)
    | ((with_reducible refine le_step ?hn ?_); (case hn => first | exact rfl | assumption | omega); conv => whnf)
    | ((refine ⟨?hx, ?_⟩); (case hx => exact ⟨rfl, Nat.le_of_ble_eq_true rfl, rfl⟩); conv => whnf)
    | ((with_reducible refine ex_step ?_); conv => whnf)
    | ((with_reducible have hG := chk_fact hF); clear hF; (refine ⟨?hx, ?_⟩); (case hx => (first | exact of_decide_eq_true hG.1 | exact hG.1)); have hF := hG.2; clear hG; conv => whnf)
    | ((with_reducible refine both_T ?hx ?_); (case hx => first | exact rfl | assumption | exact notT (by assumption)); conv => whnf)
    | ((with_reducible refine both_F ?hx ?_); (case hx => first | exact rfl | assumption | exact notF (by assumption)); conv => whnf)
    | (revert hF; (with_reducible refine ite_step ?_ ?_) <;> (intro hc hF; conv => whnf))
    | ((with_reducible refine vc_condT ?hx ?_); (case hx => exact rfl))
    | ((with_reducible refine vc_condF ?hx ?_); (case hx => exact rfl))
    | (show retD _ _ _ _ _ _; conv => whnf)
    | ((refine ⟨?hx, trivial⟩); (case hx => (cases hF; exact rfl)))
    | ((refine ⟨?hx, ?_⟩); (case hx => decide); conv => whnf)
    | ((with_reducible refine k_seq ?_))
    | (have hF : (none : Option _) = some _ := hF; cases hF))
end
end Go.Vc
namespace Go.Vc
open Go.Proofs
set_option linter.unusedVariables false
set_option linter.unnecessarySimpa false
set_option linter.unusedSimpArgs false
section
variable {c : Ctx} {p nid : Nat} {a b : Code} {st : St} {K : Ex → St → Prop}
/- f9: tusche/tuschelaw06.CutLess -/
def f9_c24 (N : Nat) (x2 : (List Cut) × Int) (x3 : (List Cut) × Int) (x4 : (List Cut) × Int) : Option (Bool) :=
 bif decide (¬ x2.2 = (0 : Int)) then ((f13 N ).bind fun x7 =>
 some (x7))
 else (bif decide (x3.2 = (0 : Int)) then (bif decide (x4.2 = (0 : Int)) then ((f13 N ).bind fun x8 =>
 some (x8))
 else (some (false)))
 else (some (false)))
def Sf9_c24 : Ann := ⟨[9, 17, 19], [], [], []⟩
def Vf9_c24 (x2 : (List Cut) × Int) (x3 : (List Cut) × Int) (x4 : (List Cut) × Int) : List SV := [.dat (iN x2.2), .dat (iN x3.2), .dat (iN x4.2)]
def Bf9_c24 (x2 : (List Cut) × Int) (x3 : (List Cut) × Int) (x4 : (List Cut) × Int) : List Blk := []
def Yf9_c24 (x2 : (List Cut) × Int) (x3 : (List Cut) × Int) (x4 : (List Cut) × Int) (y : Unit) : List SV := Vf9_c24 x2 x3 x4
def Xf9_c24 (x2 : (List Cut) × Int) (x3 : (List Cut) × Int) (x4 : (List Cut) × Int) (y : Unit) : List Blk := Bf9_c24 x2 x3 x4
def Jf9_c24 (N : Nat) (x2 : (List Cut) × Int) (x3 : (List Cut) × Int) (x4 : (List Cut) × Int) (r : Bool) (y : Unit) : Prop := f9_c24 N x2 x3 x4 = some r
theorem Cf9_c24 {r : Bool} {N : Nat} {x2 : (List Cut) × Int} {x3 : (List Cut) × Int} {x4 : (List Cut) × Int} {g : _ → Option (Bool)} (hn : Nat.beq (nid * 1000 + firstRegion b) 24 = true) (hz : Sf9_c24.ok p = true) (h : g (f9_c24 N x2 x3 x4) = some r → vc c p nid a st (KHead Sf9_c24 (Yf9_c24 x2 x3 x4) (Xf9_c24 x2 x3 x4) (Jf9_c24 N x2 x3 x4 r) K)) (h2 : ∀ (_ : Unit), f9_c24 N x2 x3 x4 = some r → vc c p nid b (St.mk' Sf9_c24 (Vf9_c24 x2 x3 x4) (Bf9_c24 x2 x3 x4)) K) (hF : joinK (f9_c24 N x2 x3 x4) g = some r) : vc c p nid (.seq a b) st K :=
  vc_cut Sf9_c24 (Yf9_c24 x2 x3 x4) (Xf9_c24 x2 x3 x4) (Jf9_c24 N x2 x3 x4 r) hz (h hF) fun y hy => h2 () hy
theorem Zf9_c24 {r : Bool} {N : Nat} {x2 : (List Cut) × Int} {x3 : (List Cut) × Int} {x4 : (List Cut) × Int} (hF : f9_c24 N x2 x3 x4 = some r) (h0 : AtH Sf9_c24 st (Vf9_c24 x2 x3 x4) (Bf9_c24 x2 x3 x4)) : KHead Sf9_c24 (Yf9_c24 x2 x3 x4) (Xf9_c24 x2 x3 x4) (Jf9_c24 N x2 x3 x4 r) K .normal st := by
  exact khead (I := (Jf9_c24 N x2 x3 x4 r)) (x := ()) hF h0
def f9_c18 (N : Nat) (x1 : Layout) (x2 : (List Cut) × Int) (b310_2 : List Label) (b311_2 : List Label) (b410_2 : List Label) (b411_2 : List Label) : Option (Bool) :=
 (f22 N (Layout.mk x1.W x1.H b310_2)).bind fun x3 =>
 (f22 N (Layout.mk x1.W x1.H b311_2)).bind fun x4 =>
 (f22 N (Layout.mk x1.H x1.W b410_2)).bind fun x5 =>
 (f22 N (Layout.mk x1.W x1.H b411_2)).bind fun x6 =>
 joinK (f9_c24 N x2 x3 x4) fun k0 =>
 bif decide (¬ x2.2 = (0 : Int)) then (bif decide (¬ x2.2 = (14 : Int)) then (some (false))
 else (bif decide (¬ x3.2 = (0 : Int)) then (bif decide (¬ x3.2 = (14 : Int)) then (some (false))
 else (bif decide (¬ x4.2 = (0 : Int)) then (bif decide (¬ x4.2 = (14 : Int)) then (some (false))
 else (bif decide (¬ x5.2 = x2.2) then (some (false))
 else (bif decide (¬ x6.2 = x2.2) then (some (false))
 else k0)))
 else (bif decide (¬ x5.2 = x2.2) then (some (false))
 else (bif decide (¬ x6.2 = x2.2) then (some (false))
 else k0))))
 else (bif decide (¬ x4.2 = (0 : Int)) then (bif decide (¬ x4.2 = (14 : Int)) then (some (false))
 else (bif decide (¬ x5.2 = x2.2) then (some (false))
 else (bif decide (¬ x6.2 = x2.2) then (some (false))
 else k0)))
 else (bif decide (¬ x5.2 = x2.2) then (some (false))
 else (bif decide (¬ x6.2 = x2.2) then (some (false))
 else k0)))))
 else (bif decide (¬ x3.2 = (0 : Int)) then (bif decide (¬ x3.2 = (14 : Int)) then (some (false))
 else (bif decide (¬ x4.2 = (0 : Int)) then (bif decide (¬ x4.2 = (14 : Int)) then (some (false))
 else (bif decide (¬ x5.2 = x2.2) then (some (false))
 else (bif decide (¬ x6.2 = x2.2) then (some (false))
 else k0)))
 else (bif decide (¬ x5.2 = x2.2) then (some (false))
 else (bif decide (¬ x6.2 = x2.2) then (some (false))
 else k0))))
 else (bif decide (¬ x4.2 = (0 : Int)) then (bif decide (¬ x4.2 = (14 : Int)) then (some (false))
 else (bif decide (¬ x5.2 = x2.2) then (some (false))
 else (bif decide (¬ x6.2 = x2.2) then (some (false))
 else k0)))
 else (bif decide (¬ x5.2 = x2.2) then (some (false))
 else (bif decide (¬ x6.2 = x2.2) then (some (false))
 else k0))))
def Sf9_c18 : Ann := ⟨[9, 10, 11, 12, 13], [310, 311, 410, 411, 90500, 90520, 90540, 90560], [(.cell 310 2, 90500, 50, 4), (.cell 311 2, 90520, 50, 4), (.cell 410 2, 90540, 50, 4), (.cell 411 2, 90560, 50, 4)], []⟩
def Vf9_c18 (x1 : Layout) (x2 : (List Cut) × Int) (b310_2 : List Label) (b311_2 : List Label) (b410_2 : List Label) (b411_2 : List Label) : List SV := [.dat (iN x2.2), .ptr 310 0, .ptr 311 0, .ptr 410 0, .ptr 411 0]
def Bf9_c18 (x1 : Layout) (x2 : (List Cut) × Int) (b310_2 : List Label) (b311_2 : List Label) (b410_2 : List Label) (b411_2 : List Label) : List Blk := [.box [.dat (iN x1.W), .dat (iN x1.H), .rs 90500 (List.length b310_2)], .box [.dat (iN x1.W), .dat (iN x1.H), .rs 90520 (List.length b311_2)], .box [.dat (iN x1.H), .dat (iN x1.W), .rs 90540 (List.length b410_2)], .box [.dat (iN x1.W), .dat (iN x1.H), .rs 90560 (List.length b411_2)], .row 50 4 (List.map Label.d b310_2), .row 50 4 (List.map Label.d b311_2), .row 50 4 (List.map Label.d b410_2), .row 50 4 (List.map Label.d b411_2)]
def Yf9_c18 (x1 : Layout) (x2 : (List Cut) × Int) (y : (List Label) × (List Label) × (List Label) × (List Label)) : List SV := Vf9_c18 x1 x2 y.1 y.2.1 y.2.2.1 y.2.2.2
def Xf9_c18 (x1 : Layout) (x2 : (List Cut) × Int) (y : (List Label) × (List Label) × (List Label) × (List Label)) : List Blk := Bf9_c18 x1 x2 y.1 y.2.1 y.2.2.1 y.2.2.2
def Jf9_c18 (N : Nat) (x1 : Layout) (x2 : (List Cut) × Int) (r : Bool) (y : (List Label) × (List Label) × (List Label) × (List Label)) : Prop := f9_c18 N x1 x2 y.1 y.2.1 y.2.2.1 y.2.2.2 = some r
def V2f9_c18 (x1 : Layout) (x2 : (List Cut) × Int) (b310_2 : List Label) (b311_2 : List Label) (b410_2 : List Label) (b411_2 : List Label) (m0 : Nat) (m1 : Nat) (m2 : Nat) (m3 : Nat) : List SV := [.dat (iN x2.2), .ptr 310 0, .ptr 311 0, .ptr 410 0, .ptr 411 0]
def B2f9_c18 (x1 : Layout) (x2 : (List Cut) × Int) (b310_2 : List Label) (b311_2 : List Label) (b410_2 : List Label) (b411_2 : List Label) (m0 : Nat) (m1 : Nat) (m2 : Nat) (m3 : Nat) : List Blk := [.box [.dat (iN x1.W), .dat (iN x1.H), .rs 90500 m0], .box [.dat (iN x1.W), .dat (iN x1.H), .rs 90520 m1], .box [.dat (iN x1.H), .dat (iN x1.W), .rs 90540 m2], .box [.dat (iN x1.W), .dat (iN x1.H), .rs 90560 m3], .row 50 4 (List.map Label.d b310_2), .row 50 4 (List.map Label.d b311_2), .row 50 4 (List.map Label.d b410_2), .row 50 4 (List.map Label.d b411_2)]
theorem Cf9_c18 {r : Bool} {N : Nat} {x1 : Layout} {x2 : (List Cut) × Int} {g : _ → Option (Bool)} (hn : Nat.beq (nid * 1000 + firstRegion b) 18 = true) (hz : Sf9_c18.ok p = true) (h : g (f9_c18 N x1 x2) = some r → vc c p nid a st (KHead Sf9_c18 (Yf9_c18 x1 x2) (Xf9_c18 x1 x2) (Jf9_c18 N x1 x2 r) K)) (h2 : ∀ (b310_2 : List Label) (b311_2 : List Label) (b410_2 : List Label) (b411_2 : List Label), f9_c18 N x1 x2 b310_2 b311_2 b410_2 b411_2 = some r → vc c p nid b (St.mk' Sf9_c18 (Vf9_c18 x1 x2 b310_2 b311_2 b410_2 b411_2) (Bf9_c18 x1 x2 b310_2 b311_2 b410_2 b411_2)) K) (hF : joinK (f9_c18 N x1 x2) g = some r) : vc c p nid (.seq a b) st K :=
  vc_cut Sf9_c18 (Yf9_c18 x1 x2) (Xf9_c18 x1 x2) (Jf9_c18 N x1 x2 r) hz (h hF) fun y hy => h2 y.1 y.2.1 y.2.2.1 y.2.2.2 hy
theorem Zf9_c18 {r : Bool} {N : Nat} {x1 : Layout} {x2 : (List Cut) × Int} {b310_2 : List Label} {b311_2 : List Label} {b410_2 : List Label} {b411_2 : List Label} {m0 : Nat} {m1 : Nat} {m2 : Nat} {m3 : Nat} (hF : f9_c18 N x1 x2 b310_2 b311_2 b410_2 b411_2 = some r) (h0 : AtH Sf9_c18 st (V2f9_c18 x1 x2 b310_2 b311_2 b410_2 b411_2 m0 m1 m2 m3) (B2f9_c18 x1 x2 b310_2 b311_2 b410_2 b411_2 m0 m1 m2 m3)) (em0 : m0 = List.length b310_2) (em1 : m1 = List.length b311_2) (em2 : m2 = List.length b410_2) (em3 : m3 = List.length b411_2) : KHead Sf9_c18 (Yf9_c18 x1 x2) (Xf9_c18 x1 x2) (Jf9_c18 N x1 x2 r) K .normal st := by
  subst em0 em1 em2 em3; exact khead (I := (Jf9_c18 N x1 x2 r)) (x := (b310_2, b311_2, b410_2, b411_2)) hF h0
def f9_c10 (a1 : Int) (a2 : A4u8N) (x1 : Layout) (x2 : (List Cut) × Int) (v54 : Int) (b311_2 : List Label) (b410_2 : List Label) (b411_2 : List Label) (r6 : Int → (List Label) → (List Label) → (List Label) → (List Label) → Option (Bool)) (x9 : Label) (b310_2' : List Label) : Option (Bool) :=
 (app 32 [(Label.mk (W ((W (x1.W - x9.X)) - x9.W)) x9.Y x9.W x9.H)] b411_2).bind fun x10 =>
 (app 32 b410_2 [(Label.mk (W ((W (x1.H - x9.Y)) - x9.H)) x9.X x9.H x9.W)]).bind fun x11 =>
 (chk (decide (x9.W ≠ 0))).bind fun _ =>
 (chk (decide (x9.W ≠ 0))).bind fun _ =>
 (chk (decide (x9.H ≠ 0))).bind fun _ =>
 (chk (decide (x9.H ≠ 0))).bind fun _ =>
 (chk (decide ((W (x9.W - (Int.tmod a2.e0 x9.W))) ≠ 0))).bind fun _ =>
 (chk (decide ((W (x9.H - (Int.tmod a2.e1 x9.H))) ≠ 0))).bind fun _ =>
 (app 32 b311_2 [(Label.mk (W (x9.X + (Int.tmod a2.e0 x9.W))) (W (x9.Y + (Int.tmod a2.e1 x9.H))) (W ((W (x9.W - (Int.tmod a2.e0 x9.W))) - (Int.tmod a2.e2 (W (x9.W - (Int.tmod a2.e0 x9.W)))))) (W ((W (x9.H - (Int.tmod a2.e1 x9.H))) - (Int.tmod a2.e3 (W (x9.H - (Int.tmod a2.e1 x9.H)))))))]).bind fun x12 =>
 r6 (W (v54 + (1 : Int))) (b310_2') x12 x11 x10
def Sf9_c10 : Ann := ⟨[1, 5, 7, 9, 10, 11, 12, 13, 15, 52, 53, 54], [1, 102, 310, 311, 410, 411, 703, 90500, 90520, 90540, 90560], [(.cell 310 2, 90500, 50, 4)], []⟩
def Vf9_c10 (a1 : Int) (a2 : A4u8N) (x1 : Layout) (x2 : (List Cut) × Int) (v54 : Int) (b311_2 : List Label) (b410_2 : List Label) (b411_2 : List Label) (x9 : Label) (b310_2' : List Label) : List SV := [.dat (u8N a1), .ptr 1 0, .ptr 102 0, .dat (iN x2.2), .ptr 310 0, .ptr 311 0, .ptr 410 0, .ptr 411 0, .ptr 703 0, .dat (sl_Label x1.Labels), .dat (iN (List.length x1.Labels : Int)), .dat (iN v54)]
def Bf9_c10 (a1 : Int) (a2 : A4u8N) (x1 : Layout) (x2 : (List Cut) × Int) (v54 : Int) (b311_2 : List Label) (b410_2 : List Label) (b411_2 : List Label) (x9 : Label) (b310_2' : List Label) : List Blk := [.box [.dat (u8N a2.e0), .dat (u8N a2.e1), .dat (u8N a2.e2), .dat (u8N a2.e3)], .box [.dat (iN x1.W), .dat (iN x1.H), .dat (sl_Label x1.Labels)], .box [.dat (iN x1.W), .dat (iN x1.H), .rs 90500 (List.length (b310_2'))], .box [.dat (iN x1.W), .dat (iN x1.H), .rs 90520 (List.length b311_2)], .box [.dat (iN x1.H), .dat (iN x1.W), .rs 90540 (List.length b410_2)], .box [.dat (iN x1.W), .dat (iN x1.H), .rs 90560 (List.length b411_2)], .box [.dat (iN x9.X), .dat (iN x9.Y), .dat (iN x9.W), .dat (iN x9.H)], .row 50 4 (List.map Label.d (b310_2')), .row 50 4 (List.map Label.d b311_2), .row 50 4 (List.map Label.d b410_2), .row 50 4 (List.map Label.d b411_2)]
def Yf9_c10 (a1 : Int) (a2 : A4u8N) (x1 : Layout) (x2 : (List Cut) × Int) (v54 : Int) (b311_2 : List Label) (b410_2 : List Label) (b411_2 : List Label) (x9 : Label) (y : (List Label)) : List SV := Vf9_c10 a1 a2 x1 x2 v54 b311_2 b410_2 b411_2 x9 y
def Xf9_c10 (a1 : Int) (a2 : A4u8N) (x1 : Layout) (x2 : (List Cut) × Int) (v54 : Int) (b311_2 : List Label) (b410_2 : List Label) (b411_2 : List Label) (x9 : Label) (y : (List Label)) : List Blk := Bf9_c10 a1 a2 x1 x2 v54 b311_2 b410_2 b411_2 x9 y
def Jf9_c10 (a1 : Int) (a2 : A4u8N) (x1 : Layout) (x2 : (List Cut) × Int) (v54 : Int) (b311_2 : List Label) (b410_2 : List Label) (b411_2 : List Label) (r6 : Int → (List Label) → (List Label) → (List Label) → (List Label) → Option (Bool)) (x9 : Label) (r : Bool) (y : (List Label)) : Prop := f9_c10 a1 a2 x1 x2 v54 b311_2 b410_2 b411_2 r6 x9 y = some r
def V2f9_c10 (a1 : Int) (a2 : A4u8N) (x1 : Layout) (x2 : (List Cut) × Int) (v54 : Int) (b311_2 : List Label) (b410_2 : List Label) (b411_2 : List Label) (x9 : Label) (b310_2' : List Label) (m0 : Nat) (m1 : Nat) (m2 : Nat) (m3 : Nat) : List SV := [.dat (u8N a1), .ptr 1 0, .ptr 102 0, .dat (iN x2.2), .ptr 310 0, .ptr 311 0, .ptr 410 0, .ptr 411 0, .ptr 703 0, .dat (sl_Label x1.Labels), .dat (iN (List.length x1.Labels : Int)), .dat (iN v54)]
def B2f9_c10 (a1 : Int) (a2 : A4u8N) (x1 : Layout) (x2 : (List Cut) × Int) (v54 : Int) (b311_2 : List Label) (b410_2 : List Label) (b411_2 : List Label) (x9 : Label) (b310_2' : List Label) (m0 : Nat) (m1 : Nat) (m2 : Nat) (m3 : Nat) : List Blk := [.box [.dat (u8N a2.e0), .dat (u8N a2.e1), .dat (u8N a2.e2), .dat (u8N a2.e3)], .box [.dat (iN x1.W), .dat (iN x1.H), .dat (sl_Label x1.Labels)], .box [.dat (iN x1.W), .dat (iN x1.H), .rs 90500 m0], .box [.dat (iN x1.W), .dat (iN x1.H), .rs 90520 m1], .box [.dat (iN x1.H), .dat (iN x1.W), .rs 90540 m2], .box [.dat (iN x1.W), .dat (iN x1.H), .rs 90560 m3], .box [.dat (iN x9.X), .dat (iN x9.Y), .dat (iN x9.W), .dat (iN x9.H)], .row 50 4 (List.map Label.d (b310_2')), .row 50 4 (List.map Label.d b311_2), .row 50 4 (List.map Label.d b410_2), .row 50 4 (List.map Label.d b411_2)]
theorem Cf9_c10 {r : Bool} {a1 : Int} {a2 : A4u8N} {x1 : Layout} {x2 : (List Cut) × Int} {v54 : Int} {b311_2 : List Label} {b410_2 : List Label} {b411_2 : List Label} {r6 : Int → (List Label) → (List Label) → (List Label) → (List Label) → Option (Bool)} {x9 : Label} {g : _ → Option (Bool)} (hn : Nat.beq (nid * 1000 + firstRegion b) 10 = true) (hz : Sf9_c10.ok p = true) (h : g (f9_c10 a1 a2 x1 x2 v54 b311_2 b410_2 b411_2 r6 x9) = some r → vc c p nid a st (KHead Sf9_c10 (Yf9_c10 a1 a2 x1 x2 v54 b311_2 b410_2 b411_2 x9) (Xf9_c10 a1 a2 x1 x2 v54 b311_2 b410_2 b411_2 x9) (Jf9_c10 a1 a2 x1 x2 v54 b311_2 b410_2 b411_2 r6 x9 r) K)) (h2 : ∀ (b310_2' : List Label), f9_c10 a1 a2 x1 x2 v54 b311_2 b410_2 b411_2 r6 x9 b310_2' = some r → vc c p nid b (St.mk' Sf9_c10 (Vf9_c10 a1 a2 x1 x2 v54 b311_2 b410_2 b411_2 x9 b310_2') (Bf9_c10 a1 a2 x1 x2 v54 b311_2 b410_2 b411_2 x9 b310_2')) K) (hF : joinK (f9_c10 a1 a2 x1 x2 v54 b311_2 b410_2 b411_2 r6 x9) g = some r) : vc c p nid (.seq a b) st K :=
  vc_cut Sf9_c10 (Yf9_c10 a1 a2 x1 x2 v54 b311_2 b410_2 b411_2 x9) (Xf9_c10 a1 a2 x1 x2 v54 b311_2 b410_2 b411_2 x9) (Jf9_c10 a1 a2 x1 x2 v54 b311_2 b410_2 b411_2 r6 x9 r) hz (h hF) fun y hy => h2 y hy
theorem Zf9_c10 {r : Bool} {a1 : Int} {a2 : A4u8N} {x1 : Layout} {x2 : (List Cut) × Int} {v54 : Int} {b311_2 : List Label} {b410_2 : List Label} {b411_2 : List Label} {r6 : Int → (List Label) → (List Label) → (List Label) → (List Label) → Option (Bool)} {x9 : Label} {b310_2' : List Label} {m0 : Nat} {m1 : Nat} {m2 : Nat} {m3 : Nat} (hF : f9_c10 a1 a2 x1 x2 v54 b311_2 b410_2 b411_2 r6 x9 b310_2' = some r) (h0 : AtH Sf9_c10 st (V2f9_c10 a1 a2 x1 x2 v54 b311_2 b410_2 b411_2 x9 b310_2' m0 m1 m2 m3) (B2f9_c10 a1 a2 x1 x2 v54 b311_2 b410_2 b411_2 x9 b310_2' m0 m1 m2 m3)) (em0 : m0 = List.length (b310_2')) (em1 : m1 = List.length b311_2) (em2 : m2 = List.length b410_2) (em3 : m3 = List.length b411_2) : KHead Sf9_c10 (Yf9_c10 a1 a2 x1 x2 v54 b311_2 b410_2 b411_2 x9) (Xf9_c10 a1 a2 x1 x2 v54 b311_2 b410_2 b411_2 x9) (Jf9_c10 a1 a2 x1 x2 v54 b311_2 b410_2 b411_2 r6 x9 r) K .normal st := by
  subst em0 em1 em2 em3; exact khead (I := (Jf9_c10 a1 a2 x1 x2 v54 b311_2 b410_2 b411_2 r6 x9 r)) (x := (b310_2')) hF h0
def f9_6b (r6 : Int → (List Label) → (List Label) → (List Label) → (List Label) → Option (Bool)) (a1 : Int) (a2 : A4u8N) (x1 : Layout) (x2 : (List Cut) × Int) (k1 : (List Label) → (List Label) → (List Label) → (List Label) → Option (Bool)) (v54 : Int) (b310_2 : List Label) (b311_2 : List Label) (b410_2 : List Label) (b411_2 : List Label) : Option (Bool) :=
 bif decide (v54 < (List.length x1.Labels : Int)) then ((ix x1.Labels v54).bind fun x9 =>
 joinK (f9_c10 a1 a2 x1 x2 v54 b311_2 b410_2 b411_2 r6 x9) fun k2 =>
 (chk (decide (0 ≤ v54))).bind fun _ =>
 bif decide ((bitsI .and .u8 (Int.fdiv a1 (2 ^ (min (Int.toNat v54) 8))) (1 : Int)) = (0 : Int)) then ((app 32 b310_2 [x9]).bind fun x13 =>
 k2 x13)
 else (k2 b310_2))
 else (k1 b310_2 b311_2 b410_2 b411_2)
def f9_6 (a1 : Int) (a2 : A4u8N) (x1 : Layout) (x2 : (List Cut) × Int) (k1 : (List Label) → (List Label) → (List Label) → (List Label) → Option (Bool)) : Nat → Int → (List Label) → (List Label) → (List Label) → (List Label) → Option (Bool)
  | 0, _, _, _, _, _ => none
  | n + 1, v54, b310_2, b311_2, b410_2, b411_2 => f9_6b (f9_6 a1 a2 x1 x2 k1 n) a1 a2 x1 x2 k1 v54 b310_2 b311_2 b410_2 b411_2
def Sf9_6 : Ann := ⟨[1, 5, 7, 9, 10, 11, 12, 13, 52, 53, 54], [1, 102, 310, 311, 410, 411, 90500, 90520, 90540, 90560], [(.cell 310 2, 90500, 50, 4), (.cell 311 2, 90520, 50, 4), (.cell 410 2, 90540, 50, 4), (.cell 411 2, 90560, 50, 4)], []⟩
def Vf9_6 (a1 : Int) (a2 : A4u8N) (x1 : Layout) (x2 : (List Cut) × Int) (v54 : Int) (b310_2 : List Label) (b311_2 : List Label) (b410_2 : List Label) (b411_2 : List Label) : List SV := [.dat (u8N a1), .ptr 1 0, .ptr 102 0, .dat (iN x2.2), .ptr 310 0, .ptr 311 0, .ptr 410 0, .ptr 411 0, .dat (sl_Label x1.Labels), .dat (iN (List.length x1.Labels : Int)), .dat (iN v54)]
def Bf9_6 (a1 : Int) (a2 : A4u8N) (x1 : Layout) (x2 : (List Cut) × Int) (v54 : Int) (b310_2 : List Label) (b311_2 : List Label) (b410_2 : List Label) (b411_2 : List Label) : List Blk := [.box [.dat (u8N a2.e0), .dat (u8N a2.e1), .dat (u8N a2.e2), .dat (u8N a2.e3)], .box [.dat (iN x1.W), .dat (iN x1.H), .dat (sl_Label x1.Labels)], .box [.dat (iN x1.W), .dat (iN x1.H), .rs 90500 (List.length b310_2)], .box [.dat (iN x1.W), .dat (iN x1.H), .rs 90520 (List.length b311_2)], .box [.dat (iN x1.H), .dat (iN x1.W), .rs 90540 (List.length b410_2)], .box [.dat (iN x1.W), .dat (iN x1.H), .rs 90560 (List.length b411_2)], .row 50 4 (List.map Label.d b310_2), .row 50 4 (List.map Label.d b311_2), .row 50 4 (List.map Label.d b410_2), .row 50 4 (List.map Label.d b411_2)]
def Yf9_6 (a1 : Int) (a2 : A4u8N) (x1 : Layout) (x2 : (List Cut) × Int) (y : Nat × Int × (List Label) × (List Label) × (List Label) × (List Label)) : List SV := Vf9_6 a1 a2 x1 x2 y.2.1 y.2.2.1 y.2.2.2.1 y.2.2.2.2.1 y.2.2.2.2.2
def Xf9_6 (a1 : Int) (a2 : A4u8N) (x1 : Layout) (x2 : (List Cut) × Int) (y : Nat × Int × (List Label) × (List Label) × (List Label) × (List Label)) : List Blk := Bf9_6 a1 a2 x1 x2 y.2.1 y.2.2.1 y.2.2.2.1 y.2.2.2.2.1 y.2.2.2.2.2
def Jf9_6 (a1 : Int) (a2 : A4u8N) (x1 : Layout) (x2 : (List Cut) × Int) (k1 : (List Label) → (List Label) → (List Label) → (List Label) → Option (Bool)) (r : Bool) (y : Nat × Int × (List Label) × (List Label) × (List Label) × (List Label)) : Prop := f9_6 a1 a2 x1 x2 k1 y.1 y.2.1 y.2.2.1 y.2.2.2.1 y.2.2.2.2.1 y.2.2.2.2.2 = some r
def V2f9_6 (a1 : Int) (a2 : A4u8N) (x1 : Layout) (x2 : (List Cut) × Int) (v54 : Int) (b310_2 : List Label) (b311_2 : List Label) (b410_2 : List Label) (b411_2 : List Label) (m0 : Nat) (m1 : Nat) (m2 : Nat) (m3 : Nat) : List SV := [.dat (u8N a1), .ptr 1 0, .ptr 102 0, .dat (iN x2.2), .ptr 310 0, .ptr 311 0, .ptr 410 0, .ptr 411 0, .dat (sl_Label x1.Labels), .dat (iN (List.length x1.Labels : Int)), .dat (iN v54)]
def B2f9_6 (a1 : Int) (a2 : A4u8N) (x1 : Layout) (x2 : (List Cut) × Int) (v54 : Int) (b310_2 : List Label) (b311_2 : List Label) (b410_2 : List Label) (b411_2 : List Label) (m0 : Nat) (m1 : Nat) (m2 : Nat) (m3 : Nat) : List Blk := [.box [.dat (u8N a2.e0), .dat (u8N a2.e1), .dat (u8N a2.e2), .dat (u8N a2.e3)], .box [.dat (iN x1.W), .dat (iN x1.H), .dat (sl_Label x1.Labels)], .box [.dat (iN x1.W), .dat (iN x1.H), .rs 90500 m0], .box [.dat (iN x1.W), .dat (iN x1.H), .rs 90520 m1], .box [.dat (iN x1.H), .dat (iN x1.W), .rs 90540 m2], .box [.dat (iN x1.W), .dat (iN x1.H), .rs 90560 m3], .row 50 4 (List.map Label.d b310_2), .row 50 4 (List.map Label.d b311_2), .row 50 4 (List.map Label.d b410_2), .row 50 4 (List.map Label.d b411_2)]
theorem Lf9_6 {r : Bool} {a1 : Int} {a2 : A4u8N} {x1 : Layout} {x2 : (List Cut) × Int} {k1 : (List Label) → (List Label) → (List Label) → (List Label) → Option (Bool)} {fu : Nat} {v54 : Int} {b310_2 : List Label} {b311_2 : List Label} {b410_2 : List Label} {b411_2 : List Label} {m0 : Nat} {m1 : Nat} {m2 : Nat} {m3 : Nat} (hz : Sf9_6.ok p = true) (h0 : AtH Sf9_6 st (V2f9_6 a1 a2 x1 x2 v54 b310_2 b311_2 b410_2 b411_2 m0 m1 m2 m3) (B2f9_6 a1 a2 x1 x2 v54 b310_2 b311_2 b410_2 b411_2 m0 m1 m2 m3)) (em0 : m0 = List.length b310_2) (em1 : m1 = List.length b311_2) (em2 : m2 = List.length b410_2) (em3 : m3 = List.length b411_2) (h : ∀ (n : Nat) (v54 : Int) (b310_2 : List Label) (b311_2 : List Label) (b410_2 : List Label) (b411_2 : List Label), f9_6b (f9_6 a1 a2 x1 x2 k1 n) a1 a2 x1 x2 k1 v54 b310_2 b311_2 b410_2 b411_2 = some r → vc c p nid a (St.mk' Sf9_6 (Vf9_6 a1 a2 x1 x2 v54 b310_2 b311_2 b410_2 b411_2) (Bf9_6 a1 a2 x1 x2 v54 b310_2 b311_2 b410_2 b411_2)) (Kloop Sf9_6 (Yf9_6 a1 a2 x1 x2) (Xf9_6 a1 a2 x1 x2) (Jf9_6 a1 a2 x1 x2 k1 r) Prod.fst (n + 1, v54, b310_2, b311_2, b410_2, b411_2) K)) (hF : f9_6 a1 a2 x1 x2 k1 fu v54 b310_2 b311_2 b410_2 b411_2 = some r) : vc c p nid (.loop a) st K := by
  subst em0 em1 em2 em3; refine vc_loop Sf9_6 (Yf9_6 a1 a2 x1 x2) (Xf9_6 a1 a2 x1 x2) (Jf9_6 a1 a2 x1 x2 k1 r) Prod.fst hz (kheadL (x := (fu, v54, b310_2, b311_2, b410_2, b411_2)) hF h0) ?_
  rintro ⟨_ | n, v54, b310_2, b311_2, b410_2, b411_2⟩ hI
  · cases hI
  · exact h n v54 b310_2 b311_2 b410_2 b411_2 hI
theorem Mf9_6 {r : Bool} {a1 : Int} {a2 : A4u8N} {x1 : Layout} {x2 : (List Cut) × Int} {k1 : (List Label) → (List Label) → (List Label) → (List Label) → Option (Bool)} {n : Nat} {v54 : Int} {b310_2 : List Label} {b311_2 : List Label} {b410_2 : List Label} {b411_2 : List Label} {v54_ : Int} {b310_2_ : List Label} {b311_2_ : List Label} {b410_2_ : List Label} {b411_2_ : List Label} {m0 : Nat} {m1 : Nat} {m2 : Nat} {m3 : Nat} (hF : f9_6 a1 a2 x1 x2 k1 n v54 b310_2 b311_2 b410_2 b411_2 = some r) (h0 : AtH Sf9_6 st (V2f9_6 a1 a2 x1 x2 v54 b310_2 b311_2 b410_2 b411_2 m0 m1 m2 m3) (B2f9_6 a1 a2 x1 x2 v54 b310_2 b311_2 b410_2 b411_2 m0 m1 m2 m3)) (em0 : m0 = List.length b310_2) (em1 : m1 = List.length b311_2) (em2 : m2 = List.length b410_2) (em3 : m3 = List.length b411_2) : Kloop Sf9_6 (Yf9_6 a1 a2 x1 x2) (Xf9_6 a1 a2 x1 x2) (Jf9_6 a1 a2 x1 x2 k1 r) Prod.fst (n + 1, v54_, b310_2_, b311_2_, b410_2_, b411_2_) K .normal st := by
  subst em0 em1 em2 em3; exact kback (y := (n, v54, b310_2, b311_2, b410_2, b411_2)) hF (Nat.lt_succ_self n) h0
def f9 (N : Nat) (a0 : Page) (a1 : Int) (a2 : A4u8N) : Option (Bool) :=
 (f32 N a0).bind fun x1 =>
 (f22 N x1).bind fun x2 =>
 joinK (f9_c18 N x1 x2) fun k1 =>
 f9_6 a1 a2 x1 x2 k1 N (0 : Int) [] [] [] []
def G9 (ds : List D) (d : D) : Prop := ∃ (N : Nat) (a0 : Page) (a1 : Int) (a2 : A4u8N) (r : Bool), ds = [Page.d a0, u8N a1, A4u8N.d a2] ∧ f9 N a0 a1 a2 = some r ∧ d = bN r
theorem G9.step {N : Nat} {a0 : Page} {a1 : Int} {a2 : A4u8N} {ρ : Type} {A : Bool → Option ρ} {q : ρ} {ds : List D} {K : D → Prop} (hd : ds = [Page.d a0, u8N a1, A4u8N.d a2]) (h : ∀ r, A r = some q → K (bN r)) (hF : (f9 N a0 a1 a2).bind A = some q) : ∃ d, G9 ds d ∧ K d := by
  obtain ⟨r, hr, hA⟩ := bind_some hF
  exact ⟨_, ⟨N, a0, a1, a2, r, hd, hr, rfl⟩, h r hA⟩
set_option maxRecDepth 20000 in
set_option maxHeartbeats 4000000 in
theorem P9 : PureOK Try.prog 9 G9 := by
  refine pure_of_vc (c := mkCtx tyTree [(32, true, purePg [[0, 0, 4]] G32), (22, true, purePg [[0, 0, 4]] G22), (13, true, purePg [] G13)]) rfl tyOK (ctx_cons (callable Try.func32 rfl rfl) P32 (ctx_cons (callable Try.func22 rfl rfl) P22 (ctx_cons (callable Try.func13 rfl rfl) P13 (ctx_nil)))) [[0]] 3 Try.func9 rfl rfl (by decide) (by kernel_rfl) ?_
  rintro ds d ⟨N, a0, a1, a2, r, rfl, hF, rfl⟩ hok
  clear hok
  refine ⟨rfl, ?_⟩
  show vc _ _ _ _ ⟨[(0, .dat (Page.d a0)), (1, .dat (u8N a1)), (2, .dat (A4u8N.d a2))], []⟩ _
  unfold f9 at hF
  repeat' (first
    | ((with_reducible refine q0 _ _ ?_); clear Q q0 q1 q2)
    | ((with_reducible refine q1 _ _ _ _ ?_); clear Q q0 q1 q2)
    | ((with_reducible refine q2 _ _ _ ?_); clear Q q0 q1 q2)
    | ((with_reducible refine seq_op ?hx (fun Q q0 q1 q2 => ?_)); (case hx => exact rfl); conv => whnf)
    | ((with_reducible refine draw_op ?hx (fun Q q0 q1 q2 => ?_)); (case hx => exact rfl); conv => whnf)
    | ((with_reducible refine seq_op0 ?hx (fun Q q0 q1 q2 => ?_)); (case hx => exact rfl); conv => whnf)
    | ((with_reducible refine draw_op0 ?hx (fun Q q0 q1 q2 => ?_)); (case hx => exact rfl); conv => whnf)
    | ((with_reducible refine seq_off ?hx ?_); (case hx => exact rfl))
    | ((with_reducible refine seq_off0 ?hx ?_); (case hx => exact rfl))
    | ((with_reducible refine draw_off ?hx ?_); (case hx => exact rfl))
    | ((with_reducible refine draw_off0 ?hx ?_); (case hx => exact rfl))
    | ((with_reducible refine seq_id ?_); (first | ((refine seq_opK rfl ?hy (fun Q q0 q1 q2 => ?_)); (case hy => first | assumption | exact notT (by assumption) | exact rfl); conv => whnf) | ((refine seq_offK rfl ?hy ?_); (case hy => first | assumption | exact notF (by assumption) | exact rfl)) | ((refine seq_opK0 rfl ?hy (fun Q q0 q1 q2 => ?_)); (case hy => first | assumption | exact notT (by assumption) | exact rfl); conv => whnf) | ((refine seq_offK0 rfl ?hy ?_); (case hy => first | assumption | exact notF (by assumption) | exact rfl)) | (revert hF; (with_reducible refine seq_opF ?hx ?_ ?_); (case hx => exact rfl); (intro hc hF Q q0 q1 q2; conv => whnf); rotate_left; (intro hc hF); rotate_right) | (revert hF; (with_reducible refine seq_opN ?hx ?_ ?_); (case hx => exact rfl); (intro hc hF); rotate_left; (intro hc hF Q q0 q1 q2; conv => whnf); rotate_right) | (revert hF; (with_reducible refine seq_opF0 ?hx ?_ ?_); (case hx => exact rfl); (intro hc hF Q q0 q1 q2; conv => whnf); rotate_left; (intro hc hF); rotate_right) | (revert hF; (with_reducible refine seq_opN0 ?hx ?_ ?_); (case hx => exact rfl); (intro hc hF); rotate_left; (intro hc hF Q q0 q1 q2; conv => whnf); rotate_right)))
    | ((with_reducible refine cond_id ?_); (first | ((refine condKT rfl ?hy ?_); (case hy => first | assumption | exact notT (by assumption) | exact rfl)) | ((refine condKF rfl ?hy ?_); (case hy => first | assumption | exact notF (by assumption) | exact rfl)) | (revert hF; (with_reducible refine condF ?hx ?_ ?_); (case hx => exact rfl); all_goals (intro hc hF))))
    | ((with_reducible refine seq_nil ?_); (first | ((with_reducible refine hR _ ?_); clear R hR) | ((with_reducible refine hL _ ?_); clear L hL)))
    | ((with_reducible refine draw_nil ?_); (with_reducible refine hR _ _ ?hx ?_); (case hx => kernel_rfl); (first | clear R hR | clear hR))
    | ((with_reducible refine int_step ?_); conv => whnf)
    | ((with_reducible refine len_step ?_); conv => whnf)
    | ((with_reducible refine idx2 (by assumption) ?_); conv => whnf)
    | ((with_reducible refine idx3 (by assumption) ?_); conv => whnf)
    | with_reducible refine vc_block ?_
    | with_reducible refine vc_skip ?_
    | with_reducible refine vc_ret ?_
    | with_reducible refine vc_exit ?_
    | ((with_reducible refine vc_seqN [24, 18, 10] ?hx ?_); (case hx => exact rfl))
    | (with_reducible refine vc_region (fun R hR => ?_))
    | ((with_reducible refine vc_draw ?hx (fun R hR => ?_)); (case hx => exact rfl))
    | fail
    | (revert hF; (refine Cf9_c24 rfl rfl ?_ ?_); (intro hF); rotate_left; (intro _ hF; unfold f9_c24 at hF); rotate_right)
    | exact Zf9_c24 hF ⟨_, rfl, rfl, rfl, rfl⟩
    | (revert hF; (refine Cf9_c18 rfl rfl ?_ ?_); (intro hF); rotate_left; (intro b310_2 b311_2 b410_2 b411_2 hF; unfold f9_c18 at hF); rotate_right)
    | exact Zf9_c18 hF ⟨_, rfl, rfl, rfl, rfl⟩ (by first | exact rfl | assumption | omega) (by first | exact rfl | assumption | omega) (by first | exact rfl | assumption | omega) (by first | exact rfl | assumption | omega)
    | (revert hF; (refine Cf9_c10 rfl rfl ?_ ?_); (intro hF); rotate_left; (intro b310_2' hF; unfold f9_c10 at hF); rotate_right)
    | exact Zf9_c10 hF ⟨_, rfl, rfl, rfl, rfl⟩ (by first | exact rfl | assumption | omega) (by first | exact rfl | assumption | omega) (by first | exact rfl | assumption | omega) (by first | exact rfl | assumption | omega)
    | (revert hF; (refine Lf9_6 rfl ⟨_, rfl, rfl, rfl, rfl⟩ (by first | exact rfl | assumption | omega) (by first | exact rfl | assumption | omega) (by first | exact rfl | assumption | omega) (by first | exact rfl | assumption | omega) ?_); intro n v54 b310_2 b311_2 b410_2 b411_2 hF; unfold f9_6b at hF)
    | exact Mf9_6 hF ⟨_, rfl, rfl, rfl, rfl⟩ (by first | exact rfl | assumption | omega) (by first | exact rfl | assumption | omega) (by first | exact rfl | assumption | omega) (by first | exact rfl | assumption | omega)
    | (revert hF; (with_reducible refine G13.step ?hx ?_); (case hx => exact rfl); intro v hF; conv => whnf)
    | (revert hF; (with_reducible refine G22.step ?hx ?_); (case hx => exact rfl); intro v hF; conv => whnf)
    | (revert hF; (with_reducible refine G32.step ?hx ?_); (case hx => exact rfl); intro v hF; conv => whnf)
    | with_reducible refine k_seq_ret ?_
    | with_reducible refine k_seq_exit ?_
    | with_reducible refine k_blk ?_
    | with_reducible refine k_blk_ret ?_
    | with_reducible refine k_blk_here ?_
    | ((with_reducible refine k_blk_out ?hx ?_); (case hx => exact rfl))
    | with_reducible refine k_loop_ret ?_
    | with_reducible refine k_loop_exit ?_
    | (revert hF; (with_reducible refine idx1 ?hn ?_); (case hn => first | exact rfl | exact (List.length_map _) | assumption | omega | simp); intro x hx hF; conv => whnf)
    | ((with_reducible have hG := app_fact hF); clear hF; (first | ((refine app_row hG ?hn ?hs (fun q hF => ?_)); (case hn => first | exact rfl | assumption | omega); (case hs => exact rfl)) | ((refine app_nil (d := Label.d) hG ?hs (fun q hF => ?_)); (case hs => exact rfl)) | ((refine app_gen (d := Label.d) hG ?ho ?hn ?hs (fun q hF => ?_)); (case ho => exact rfl); (case hn => exact rfl); (case hs => exact rfl))); clear hG; conv => whnf)
    | ((refine row_all ?hn ?_); (case hn => first | exact rfl | (simp; done) | (simp; omega)); conv => whnf)
    | ((with_reducible refine le_step ?hn ?_); (case hn => first | exact rfl | assumption | omega); conv => whnf)
    | ((refine ⟨?hx, ?_⟩); (case hx => exact ⟨rfl, Nat.le_of_ble_eq_true rfl, rfl⟩); conv => whnf)
    | ((with_reducible refine ex_step ?_); conv => whnf)
    | ((with_reducible have hG := chk_fact hF); clear hF; (refine ⟨?hx, ?_⟩); (case hx => (first | exact of_decide_eq_true hG.1 | exact hG.1)); have hF := hG.2; clear hG; conv => whnf)
    | ((with_reducible refine both_T ?hx ?_); (case hx => first | exact rfl | assumption | exact notT (by assumption)); conv => whnf)
    | ((with_reducible refine both_F ?hx ?_); (case hx => first | exact rfl | assumption | exact notF (by assumption)); conv => whnf)
    | (revert hF; (with_reducible refine ite_step ?_ ?_) <;> (intro hc hF; conv => whnf))
    | ((with_reducible refine vc_condT ?hx ?_); (case hx => exact rfl))
    | ((with_reducible refine vc_condF ?hx ?_); (case hx => exact rfl))
    | (show retD _ _ _ _ _ _; conv => whnf)
    | ((refine ⟨?hx, trivial⟩); (case hx => (cases hF; exact rfl)))
    | ((refine ⟨?hx, ?_⟩); (case hx => decide); conv => whnf)
    | ((with_reducible refine k_seq ?_))
    | (have hF : (none : Option _) = some _ := hF; cases hF))
end
end Go.Vc
namespace Go.Vc
open Go.Proofs
set_option linter.unusedVariables false
set_option linter.unnecessarySimpa false
set_option linter.unusedSimpArgs false
def f72 (N : Nat) (a0 : Int) (a1 : Int) (a2 : Int) : Option (Bool) :=
 bif decide (a1 ≤ a0) then (some (decide (a0 ≤ a2)))
 else (some (false))
end Go.Vc
namespace Go.Vc
open Go.Proofs
set_option linter.unusedVariables false
set_option linter.unnecessarySimpa false
set_option linter.unusedSimpArgs false
def f56 (N : Nat) (a0 : Int) (a1 : Int) (a2 : Int) : Option (Bool) :=
 (f72 N a0 a1 a2).bind fun x1 =>
 some (x1)
end Go.Vc
namespace Go.Vc
open Go.Proofs
set_option linter.unusedVariables false
set_option linter.unnecessarySimpa false
set_option linter.unusedSimpArgs false
def f57 (N : Nat) (a0 : Label) (a1 : Label) : Option (Bool) :=
 bif decide (a0.X < (W (a1.X + a1.W))) then (bif decide (a1.X < (W (a0.X + a0.W))) then (bif decide (a0.Y < (W (a1.Y + a1.H))) then (some (decide (a1.Y < (W (a0.Y + a0.H)))))
 else (some (false)))
 else (some (false)))
 else (some (false))
end Go.Vc
namespace Go.Vc
open Go.Proofs
set_option linter.unusedVariables false
set_option linter.unnecessarySimpa false
set_option linter.unusedSimpArgs false
def f21_c21 : Option (Int) :=
 some ((0 : Int))
def f21_c15 (a0 : Layout) (v5 : Int) (r14 : Int → Option (Int)) : Option (Int) :=
 r14 (W (v5 + (1 : Int)))
def f21_17b (r17 : Int → Option (Int)) (a0 : Layout) (N : Nat) (v5 : Int) (k1 : Option (Int)) (v6 : Int) : Option (Int) :=
 bif decide (v6 < v5) then ((ix a0.Labels v5).bind fun x3 =>
 (ix a0.Labels v6).bind fun x4 =>
 (f57 N x3 x4).bind fun x5 =>
 bif x5 then (some ((12 : Int)))
 else (r17 (W (v6 + (1 : Int)))))
 else k1
def f21_17 (a0 : Layout) (N : Nat) (v5 : Int) (k1 : Option (Int)) : Nat → Int → Option (Int)
  | 0, _ => none
  | n + 1, v6 => f21_17b (f21_17 a0 N v5 k1 n) a0 N v5 k1 v6
def f21_14b (r14 : Int → Option (Int)) (a0 : Layout) (N : Nat) (k0 : Option (Int)) (v5 : Int) : Option (Int) :=
 bif decide (v5 < (List.length a0.Labels : Int)) then (joinK (f21_c15 a0 v5 r14) fun k1 =>
 f21_17 a0 N v5 k1 N (0 : Int))
 else k0
def f21_14 (a0 : Layout) (N : Nat) (k0 : Option (Int)) : Nat → Int → Option (Int)
  | 0, _ => none
  | n + 1, v5 => f21_14b (f21_14 a0 N k0 n) a0 N k0 v5
def f21_c13 (a0 : Layout) (N : Nat) : Option (Int) :=
 joinK f21_c21 fun k0 =>
 f21_14 a0 N k0 N (0 : Int)
def f21_6b (r6 : Int → Option (Int)) (a0 : Layout) (N : Nat) (k2 : Option (Int)) (v3 : Int) : Option (Int) :=
 bif decide (v3 < (List.length a0.Labels : Int)) then ((ix a0.Labels v3).bind fun x6 =>
 bif decide (x6.W < (1 : Int)) then (some ((3 : Int)))
 else (bif decide (x6.H < (1 : Int)) then (some ((3 : Int)))
 else ((f56 N x6.X (0 : Int) a0.W).bind fun x7 =>
 bif !x7 then (some ((16 : Int)))
 else ((f56 N x6.Y (0 : Int) a0.H).bind fun x8 =>
 bif !x8 then (some ((16 : Int)))
 else (bif decide ((W (a0.W - x6.X)) < x6.W) then (some ((16 : Int)))
 else (bif decide ((W (a0.H - x6.Y)) < x6.H) then (some ((16 : Int)))
 else (r6 (W (v3 + (1 : Int))))))))))
 else k2
def f21_6 (a0 : Layout) (N : Nat) (k2 : Option (Int)) : Nat → Int → Option (Int)
  | 0, _ => none
  | n + 1, v3 => f21_6b (f21_6 a0 N k2 n) a0 N k2 v3
def f21 (N : Nat) (a0 : Layout) : Option (Int) :=
 (f56 N a0.W (1 : Int) (12 : Int)).bind fun x1 =>
 bif !x1 then (some ((3 : Int)))
 else ((f56 N a0.H (1 : Int) (12 : Int)).bind fun x2 =>
 bif !x2 then (some ((3 : Int)))
 else (bif decide ((10 : Int) < (List.length a0.Labels : Int)) then (some ((2 : Int)))
 else (joinK (f21_c13 a0 N) fun k2 =>
 f21_6 a0 N k2 N (0 : Int))))
end Go.Vc
namespace Go.Vc
open Go.Proofs
set_option linter.unusedVariables false
set_option linter.unnecessarySimpa false
set_option linter.unusedSimpArgs false
def f14_c6 (a0 : Layout) (b105_2 : List Label) : Option (Layout) :=
 some ((Layout.mk a0.W a0.H b105_2))
def f14_3b (r3 : Int → (List Label) → Option (Layout)) (a0 : Layout) (k0 : (List Label) → Option (Layout)) (i4 : Int) (b105_2 : List Label) : Option (Layout) :=
 bif decide (i4 < (List.length a0.Labels : Int)) then ((ix a0.Labels i4).bind fun x1 =>
 (app 32 b105_2 [x1]).bind fun x2 =>
 r3 (W (i4 + (1 : Int))) x2)
 else (k0 b105_2)
def f14_3 (a0 : Layout) (k0 : (List Label) → Option (Layout)) : Nat → Int → (List Label) → Option (Layout)
  | 0, _, _ => none
  | n + 1, i4, b105_2 => f14_3b (f14_3 a0 k0 n) a0 k0 i4 b105_2
def f14 (N : Nat) (a0 : Layout) : Option (Layout) :=
 joinK (f14_c6 a0) fun k0 =>
 f14_3 a0 k0 N (0 : Int) []
end Go.Vc
namespace Go.Vc
open Go.Proofs
set_option linter.unusedVariables false
set_option linter.unnecessarySimpa false
set_option linter.unusedSimpArgs false
def f19_c6 (out3 : List Kind) : Option ((List Kind)) :=
 some (out3)
def f19_3b (r3 : (List Kind) → Int → Option ((List Kind))) (a0 : List Kind) (k0 : (List Kind) → Option ((List Kind))) (out3 : List Kind) (i4 : Int) : Option ((List Kind)) :=
 bif decide (i4 < (List.length a0 : Int)) then ((ix a0 i4).bind fun x1 =>
 (app 24 out3 [x1]).bind fun x2 =>
 r3 x2 (W (i4 + (1 : Int))))
 else (k0 out3)
def f19_3 (a0 : List Kind) (k0 : (List Kind) → Option ((List Kind))) : Nat → (List Kind) → Int → Option ((List Kind))
  | 0, _, _ => none
  | n + 1, out3, i4 => f19_3b (f19_3 a0 k0 n) a0 k0 out3 i4
def f19 (N : Nat) (a0 : List Kind) : Option ((List Kind)) :=
 joinK f19_c6 fun k0 =>
 f19_3 a0 k0 N [] (0 : Int)
end Go.Vc
/-
  PLAIN LAWS OF CUT, 1: copies, checks.
-/
namespace Go.Vc
set_option linter.unusedVariables false
set_option linter.unnecessarySimpa false
set_option linter.unusedSimpArgs false
set_option linter.unusedSimpArgs false

theorem f52_eq {N : Nat} {a b c : Int} : f52 N a b c = some (decide (a ≤ b) && decide (b ≤ c)) := by
  unfold f52; cases decide (a ≤ b) <;> rfl
theorem f72_eq {N : Nat} {a b c : Int} : f72 N a b c = some (decide (b ≤ a) && decide (a ≤ c)) := by
  unfold f72; cases decide (b ≤ a) <;> rfl
theorem f56_eq {N : Nat} {a b c : Int} : f56 N a b c = some (decide (b ≤ a) && decide (a ≤ c)) := by
  unfold f56; rw [f72_eq]; rfl
/-- copies -/
theorem foldK_copy {α ρ : Type} {s : Nat} {k : List α → Option ρ} : ∀ (l o : List α) (i : Nat), (o.length + l.length) * s ≤ 140737488355328 → o.length + l.length ≤ 1000000 →
    foldK (fun _ x (o : List α) c => (app s o [x]).bind c) k i l o = k (o ++ l)
  | [], o, i, _, _ => by simp [foldK]
  | x :: r, o, i, h, h' => by
    simp only [foldK]
    simp only [List.length_cons] at h h'
    have h1 : (o.length + 1) * s ≤ (o.length + (r.length + 1)) * s := Nat.mul_le_mul_right s (by omega)
    rw [app_ok (by simpa using Nat.le_trans h1 h) (by simp; omega)]
    simp only [Option.bind_some]
    rw [foldK_copy r (o ++ [x]) (i + 1) (by simpa [Nat.add_assoc, Nat.add_comm 1] using h) (by simp; omega)]
    simp
theorem f14_eq {N : Nat} {a : Layout} (h : a.Labels.length ≤ 30) (hN : 30 < N) : f14 N a = some a := by
  show f14_3 a (f14_c6 a) N (0 : Int) [] = _
  have := loopL (l := a.Labels) (F := fun n s i => f14_3 a (f14_c6 a) n i s) (g := fun _ x (o : List Label) c => (app 32 o [x]).bind c) (k := f14_c6 a)
    (fun n s i x hx => by
      have hi := (List.getElem?_eq_some_iff.1 hx).1
      simp only [f14_3, f14_3b, ix_nat, hx, Option.bind_some, decide_eq_true (show (i : Int) < (a.Labels.length : Int) by omega), cond_true, W_nat (show i < 9223372036854775807 by omega)])
    (fun n s => by simp [f14_3, f14_3b]) N [] (by omega)
  refine this.trans ?_
  rw [foldK_copy _ _ _ (by simp; omega) (by simp; omega)]
  simp [f14_c6]
theorem f19_eq {N : Nat} {a : List Kind} (h : a.length ≤ 30) (hN : 30 < N) : f19 N a = some a := by
  show f19_3 a f19_c6 N [] (0 : Int) = _
  have := loopL (l := a) (F := fun n s i => f19_3 a f19_c6 n s i) (g := fun _ x (o : List Kind) c => (app 24 o [x]).bind c) (k := f19_c6)
    (fun n s i x hx => by
      have hi := (List.getElem?_eq_some_iff.1 hx).1
      simp only [f19_3, f19_3b, ix_nat, hx, Option.bind_some, decide_eq_true (show (i : Int) < (a.length : Int) by omega), cond_true, W_nat (show i < 9223372036854775807 by omega)])
    (fun n s => by simp [f19_3, f19_3b]) N [] (by omega)
  refine this.trans ?_
  rw [foldK_copy _ _ _ (by simp; omega) (by simp; omega)]
  simp [f19_c6]

/-! Checks. -/
def okLabel (L : Layout) (x : Label) : Option Int :=
  if x.W < 1 then some 3 else if x.H < 1 then some 3 else if ¬ (0 ≤ x.X ∧ x.X ≤ L.W) then some 16 else if ¬ (0 ≤ x.Y ∧ x.Y ≤ L.H) then some 16
  else if W (L.W - x.X) < x.W then some 16 else if W (L.H - x.Y) < x.H then some 16 else none
def meets2 (a b : Label) : Bool := decide (a.X < W (b.X + b.W)) && (decide (b.X < W (a.X + a.W)) && (decide (a.Y < W (b.Y + b.H)) && decide (b.Y < W (a.Y + a.H))))
/-- a label meets an earlier one -/
def clashes : List Label → List Label → Bool
  | _, [] => false
  | p, x :: r => p.any (meets2 x) || clashes (p ++ [x]) r
def checkS (L : Layout) : Int :=
  if ¬ (1 ≤ L.W ∧ L.W ≤ 12) then 3 else if ¬ (1 ≤ L.H ∧ L.H ≤ 12) then 3 else if 10 < (L.Labels.length : Int) then 2
  else (L.Labels.findSome? (okLabel L)).getD (bif clashes [] L.Labels then 12 else 0)

def orE {ρ : Type} : Option ρ → Option ρ → Option ρ
  | some e, _ => some e
  | none, k => k
/-- the first loop of both -/
theorem foldK_find {α ρ : Type} {f : α → Option ρ} {k : Option ρ} : ∀ (l : List α) (i : Nat), foldK (fun _ x (_ : Unit) c => orE (f x) (c ())) (fun _ => k) i l () = orE (l.findSome? f) k
  | [], i => rfl
  | x :: r, i => by
    simp only [foldK, List.findSome?_cons]
    cases f x with
    | some e => rfl
    | none => exact foldK_find r (i + 1)
theorem any_fold {α : Type} {f : α → Bool} {e : Int} {k : Option Int} : ∀ (l : List α) (i : Nat), foldK (fun _ x (_ : Unit) c => bif f x then some e else c ()) (fun _ => k) i l () = bif l.any f then some e else k
  | [], i => rfl
  | x :: r, i => by
    simp only [foldK, List.any_cons]
    cases f x with
    | true => rfl
    | false => simpa using any_fold r (i + 1)
theorem clash_fold {k : Option Int} : ∀ (l p : List Label), foldK (fun i x (_ : Unit) c => bif ((p ++ l).take i).any (meets2 x) then some (12 : Int) else c ()) (fun _ => k) p.length l () = bif clashes p l then some 12 else k
  | [], p => rfl
  | x :: r, p => by
    simp only [foldK, clashes, List.take_left']
    cases h : p.any (meets2 x) with
    | true => rfl
    | false =>
      have := clash_fold (k := k) r (p ++ [x])
      simp only [List.append_assoc, List.singleton_append, List.length_append, List.length_singleton] at this
      simpa using this
theorem f20_eq {N : Nat} {a : Layout} (h : a.Labels.length ≤ 30) (hN : 30 < N) : f20 N a = some (checkS a) := by
  have h17 : ∀ (i : Nat) (k1 : Option Int) (x3 : Label) (x4 : List Label), x4.length ≤ 30 → f20_17 a N (i : Int) k1 x3 x4 N (0 : Int) = bif x4.any (meets2 x3) then some 12 else k1 := by
    intro i k1 x3 x4 hx4
    have := loopL (l := x4) (F := fun n (_ : Unit) j => f20_17 a N (i : Int) k1 x3 x4 n j) (g := fun _ x (_ : Unit) c => bif meets2 x3 x then some (12 : Int) else c ()) (k := fun _ => k1)
      (fun n s j x hx => by
        have hi := (List.getElem?_eq_some_iff.1 hx).1
        simp only [f20_17, f20_17b, ix_nat, hx, Option.bind_some, decide_eq_true (show (j : Int) < (x4.length : Int) by omega), cond_true, W_nat (show j < 9223372036854775807 by omega), f53, f55, meets2]
        cases decide (x3.X < W (x.X + x.W)) <;> cases decide (x.X < W (x3.X + x3.W)) <;> cases decide (x3.Y < W (x.Y + x.H)) <;> cases decide (x.Y < W (x3.Y + x3.H)) <;> rfl)
      (fun n s => by simp [f20_17, f20_17b]) N () (by omega)
    exact this.trans (any_fold _ _)
  have h14 : f20_c13 a N = bif clashes [] a.Labels then some 12 else some 0 := by
    show f20_14 a N f20_c23 N (0 : Int) = _
    have := loopL (l := a.Labels) (F := fun n (_ : Unit) j => f20_14 a N f20_c23 n j) (g := fun i x (_ : Unit) c => bif (a.Labels.take i).any (meets2 x) then some (12 : Int) else c ()) (k := fun _ => f20_c23)
      (fun n s j x hx => by
        have hi := (List.getElem?_eq_some_iff.1 hx).1
        simp only [f20_14, f20_14b, joinK, ix_nat, hx, Option.bind_some, decide_eq_true (show (j : Int) < (a.Labels.length : Int) by omega), cond_true]
        rw [show sub a.Labels 0 (j : Int) = some (a.Labels.take j) from (sub_nat (a := 0) (by omega) (by omega)).trans (by simp)]
        simp only [Option.bind_some]
        rw [h17 j _ x _ (by simp; omega), f20_c22, W_nat (show j < 9223372036854775807 by omega)])
      (fun n s => by simp [f20_14, f20_14b]) N () (by omega)
    refine this.trans ?_
    exact clash_fold (k := f20_c23) a.Labels []
  have h6 : f20_6 a N (f20_c13 a N) N (0 : Int) = orE (a.Labels.findSome? (okLabel a)) (f20_c13 a N) := by
    have := loopL (l := a.Labels) (F := fun n (_ : Unit) j => f20_6 a N (f20_c13 a N) n j) (g := fun i x (_ : Unit) c => orE (okLabel a x) (c ())) (k := fun _ => f20_c13 a N)
      (fun n s j x hx => by
        have hi := (List.getElem?_eq_some_iff.1 hx).1
        simp only [orE, f20_6, f20_6b, ix_nat, hx, Option.bind_some, decide_eq_true (show (j : Int) < (a.Labels.length : Int) by omega), cond_true, W_nat (show j < 9223372036854775807 by omega), f52_eq, okLabel]
        by_cases c1 : x.W < 1
        · simp [c1, orE]
        by_cases c2 : x.H < 1
        · simp [c1, c2]
        by_cases c3 : 0 ≤ x.X ∧ x.X ≤ a.W
        · by_cases c4 : 0 ≤ x.Y ∧ x.Y ≤ a.H
          · by_cases c5 : W (a.W - x.X) < x.W
            · simp [c1, c2, c3, c4, c5]
            · by_cases c6 : W (a.H - x.Y) < x.H <;> simp [c1, c2, c3, c4, c5, c6]
          · have : (decide (0 ≤ x.Y) && decide (x.Y ≤ a.H)) = false := by simpa using c4
            simp [c1, c2, c3, c4, this]
        · have : (decide (0 ≤ x.X) && decide (x.X ≤ a.W)) = false := by simpa using c3
          simp [c1, c2, c3, this])
      (fun n s => by simp [f20_6, f20_6b]) N () (by omega)
    exact this.trans (foldK_find _ _)
  rw [h14] at h6
  unfold f20 checkS
  simp only [f52_eq, Option.bind_some, joinK, h14, h6]
  by_cases c1 : 1 ≤ a.W ∧ a.W ≤ 12
  · by_cases c2 : 1 ≤ a.H ∧ a.H ≤ 12
    · by_cases c3 : 10 < (a.Labels.length : Int)
      · simp [c1, c2, c3]
      · simp only [c1, c2, c3, decide_true, Bool.and_self, Bool.not_true, cond_false, decide_false, not_true_eq_false, if_false, and_self]
        cases a.Labels.findSome? (okLabel a) with
        | some e => rfl
        | none => cases clashes [] a.Labels <;> rfl
    · have : (decide (1 ≤ a.H) && decide (a.H ≤ 12)) = false := by simpa using c2
      simp [c1, c2, this]
  · have : (decide (1 ≤ a.W) && decide (a.W ≤ 12)) = false := by simpa using c1
    simp [c1, this]
theorem f57_eq {N : Nat} {x y : Label} : f57 N x y = some (meets2 x y) := by
  unfold f57 meets2
  cases decide (x.X < W (y.X + y.W)) <;> cases decide (y.X < W (x.X + x.W)) <;> cases decide (x.Y < W (y.Y + y.H)) <;> cases decide (y.Y < W (x.Y + x.H)) <;> rfl
theorem f21_eq {N : Nat} {a : Layout} (h : a.Labels.length ≤ 30) (hN : 30 < N) : f21 N a = some (checkS a) := by
  have h17 : ∀ (i : Nat) (k1 : Option Int) (x3 : Label), a.Labels[i]? = some x3 → f21_17 a N (i : Int) k1 N (0 : Int) = bif (a.Labels.take i).any (meets2 x3) then some 12 else k1 := by
    intro i k1 x3 hx3
    have hi3 := (List.getElem?_eq_some_iff.1 hx3).1
    have := loopL (l := a.Labels.take i) (F := fun n (_ : Unit) j => f21_17 a N (i : Int) k1 n j) (g := fun _ x (_ : Unit) c => bif meets2 x3 x then some (12 : Int) else c ()) (k := fun _ => k1)
      (fun n s j x hx => by
        have hi := (List.getElem?_eq_some_iff.1 hx).1
        have hj : j < i := by simp at hi; omega
        have hx' : a.Labels[j]? = some x := by rw [List.getElem?_take] at hx; simpa [hj] using hx
        simp only [f21_17, f21_17b, ix_nat, hx', hx3, Option.bind_some, decide_eq_true (show (j : Int) < (i : Int) by omega), cond_true, W_nat (show j < 9223372036854775807 by omega), f57_eq])
      (fun n s => by
        have : (a.Labels.take i).length = i := by simp; omega
        rw [this]; simp [f21_17, f21_17b]) N () (by simp; omega)
    exact this.trans (any_fold _ _)
  have h14 : f21_c13 a N = bif clashes [] a.Labels then some 12 else some 0 := by
    show f21_14 a N f21_c21 N (0 : Int) = _
    have := loopL (l := a.Labels) (F := fun n (_ : Unit) j => f21_14 a N f21_c21 n j) (g := fun i x (_ : Unit) c => bif (a.Labels.take i).any (meets2 x) then some (12 : Int) else c ()) (k := fun _ => f21_c21)
      (fun n s j x hx => by
        have hi := (List.getElem?_eq_some_iff.1 hx).1
        simp only [f21_14, f21_14b, joinK, decide_eq_true (show (j : Int) < (a.Labels.length : Int) by omega), cond_true]
        rw [h17 j _ x hx, f21_c15, W_nat (show j < 9223372036854775807 by omega)])
      (fun n s => by simp [f21_14, f21_14b]) N () (by omega)
    refine this.trans ?_
    exact clash_fold (k := f21_c21) a.Labels []
  have h6 : f21_6 a N (f21_c13 a N) N (0 : Int) = orE (a.Labels.findSome? (okLabel a)) (f21_c13 a N) := by
    have := loopL (l := a.Labels) (F := fun n (_ : Unit) j => f21_6 a N (f21_c13 a N) n j) (g := fun i x (_ : Unit) c => orE (okLabel a x) (c ())) (k := fun _ => f21_c13 a N)
      (fun n s j x hx => by
        have hi := (List.getElem?_eq_some_iff.1 hx).1
        simp only [orE, f21_6, f21_6b, ix_nat, hx, Option.bind_some, decide_eq_true (show (j : Int) < (a.Labels.length : Int) by omega), cond_true, W_nat (show j < 9223372036854775807 by omega), f56_eq, okLabel]
        by_cases c1 : x.W < 1
        · simp [c1, orE]
        by_cases c2 : x.H < 1
        · simp [c1, c2]
        by_cases c3 : 0 ≤ x.X ∧ x.X ≤ a.W
        · by_cases c4 : 0 ≤ x.Y ∧ x.Y ≤ a.H
          · by_cases c5 : W (a.W - x.X) < x.W
            · simp [c1, c2, c3, c4, c5]
            · by_cases c6 : W (a.H - x.Y) < x.H <;> simp [c1, c2, c3, c4, c5, c6]
          · have : (decide (0 ≤ x.Y) && decide (x.Y ≤ a.H)) = false := by simpa using c4
            simp [c1, c2, c3, c4, this]
        · have : (decide (0 ≤ x.X) && decide (x.X ≤ a.W)) = false := by simpa using c3
          simp [c1, c2, c3, this])
      (fun n s => by simp [f21_6, f21_6b]) N () (by omega)
    exact this.trans (foldK_find _ _)
  rw [h14] at h6
  unfold f21 checkS
  simp only [f56_eq, Option.bind_some, joinK, h14, h6]
  by_cases c1 : 1 ≤ a.W ∧ a.W ≤ 12
  · by_cases c2 : 1 ≤ a.H ∧ a.H ≤ 12
    · by_cases c3 : 10 < (a.Labels.length : Int)
      · simp [c1, c2, c3]
      · simp only [c1, c2, c3, decide_true, Bool.and_self, Bool.not_true, cond_false, decide_false, not_true_eq_false, if_false, and_self]
        cases a.Labels.findSome? (okLabel a) with
        | some e => rfl
        | none => cases clashes [] a.Labels <;> rfl
    · have : (decide (1 ≤ a.H) && decide (a.H ≤ 12)) = false := by simpa using c2
      simp [c1, c2, this]
  · have : (decide (1 ≤ a.W) && decide (a.W ≤ 12)) = false := by simpa using c1
    simp [c1, this]
end Go.Vc
namespace Go.Vc
open Go.Proofs
set_option linter.unusedVariables false
set_option linter.unnecessarySimpa false
set_option linter.unusedSimpArgs false
def f50_c11 : Option (Int) :=
 some ((0 : Int))
def f50_6b (r6 : Int → Option (Int)) (a0 : List Kind) (N : Nat) (k0 : Option (Int)) (i3 : Int) : Option (Int) :=
 bif decide (i3 < (List.length a0 : Int)) then ((ix a0 i3).bind fun x1 =>
 (f56 N x1.W (1 : Int) (12 : Int)).bind fun x2 =>
 bif !x2 then (some ((3 : Int)))
 else ((f56 N x1.H (1 : Int) (12 : Int)).bind fun x3 =>
 bif !x3 then (some ((3 : Int)))
 else ((f56 N x1.Value (0 : Int) (1000 : Int)).bind fun x4 =>
 bif !x4 then (some ((3 : Int)))
 else (r6 (W (i3 + (1 : Int)))))))
 else k0
def f50_6 (a0 : List Kind) (N : Nat) (k0 : Option (Int)) : Nat → Int → Option (Int)
  | 0, _ => none
  | n + 1, i3 => f50_6b (f50_6 a0 N k0 n) a0 N k0 i3
def f50 (N : Nat) (a0 : List Kind) : Option (Int) :=
 bif decide ((List.length a0 : Int) = (0 : Int)) then (some ((1 : Int)))
 else (bif decide ((6 : Int) < (List.length a0 : Int)) then (some ((2 : Int)))
 else (joinK f50_c11 fun k0 =>
 f50_6 a0 N k0 N (0 : Int)))
end Go.Vc
namespace Go.Vc
open Go.Proofs
set_option linter.unusedVariables false
set_option linter.unnecessarySimpa false
set_option linter.unusedSimpArgs false
def f51_c7 (out7 : Int) : Option (Int) :=
 some (out7)
def f51_3b (r3 : Int → Int → Option (Int)) (a0 : Int) (a1 : Int) (a2 : List Kind) (k0 : Int → Option (Int)) (out7 : Int) (i8 : Int) : Option (Int) :=
 bif decide (i8 < (List.length a2 : Int)) then ((ix a2 i8).bind fun x1 =>
 bif decide (x1.W = a0) then ((ix a2 i8).bind fun x2 =>
 bif decide (x2.H = a1) then ((ix a2 i8).bind fun x3 =>
 r3 (max out7 x3.Value) (W (i8 + (1 : Int))))
 else (r3 out7 (W (i8 + (1 : Int)))))
 else (r3 out7 (W (i8 + (1 : Int)))))
 else (k0 out7)
def f51_3 (a0 : Int) (a1 : Int) (a2 : List Kind) (k0 : Int → Option (Int)) : Nat → Int → Int → Option (Int)
  | 0, _, _ => none
  | n + 1, out7, i8 => f51_3b (f51_3 a0 a1 a2 k0 n) a0 a1 a2 k0 out7 i8
def f51 (N : Nat) (a0 : Int) (a1 : Int) (a2 : List Kind) : Option (Int) :=
 joinK f51_c7 fun k0 =>
 f51_3 a0 a1 a2 k0 N (-1 : Int) (0 : Int)
end Go.Vc
namespace Go.Vc
open Go.Proofs
set_option linter.unusedVariables false
set_option linter.unnecessarySimpa false
set_option linter.unusedSimpArgs false
def f18_c14 (sum7 : Int) : Option (Int × Int) :=
 some (sum7, (0 : Int))
def f18_8b (r8 : Int → Int → Option (Int × Int)) (a0 : Layout) (a1 : List Kind) (N : Nat) (k0 : Int → Option (Int × Int)) (sum7 : Int) (i8 : Int) : Option (Int × Int) :=
 bif decide (i8 < (List.length a0.Labels : Int)) then ((ix a0.Labels i8).bind fun x2 =>
 (ix a0.Labels i8).bind fun x3 =>
 (f51 N x2.W x3.H a1).bind fun x4 =>
 bif decide (x4 < (0 : Int)) then (some ((0 : Int), (13 : Int)))
 else (r8 (W (sum7 + x4)) (W (i8 + (1 : Int)))))
 else (k0 sum7)
def f18_8 (a0 : Layout) (a1 : List Kind) (N : Nat) (k0 : Int → Option (Int × Int)) : Nat → Int → Int → Option (Int × Int)
  | 0, _, _ => none
  | n + 1, sum7, i8 => f18_8b (f18_8 a0 a1 N k0 n) a0 a1 N k0 sum7 i8
def f18_c4 (a0 : Layout) (a1 : List Kind) (N : Nat) (e6 : Int) : Option (Int × Int) :=
 bif decide (¬ e6 = (0 : Int)) then (some ((0 : Int), e6))
 else (joinK f18_c14 fun k0 =>
 f18_8 a0 a1 N k0 N (0 : Int) (0 : Int))
def f18 (N : Nat) (a0 : Layout) (a1 : List Kind) : Option (Int × Int) :=
 (f21 N a0).bind fun x1 =>
 joinK (f18_c4 a0 a1 N) fun k1 =>
 bif decide (x1 = (0 : Int)) then ((f50 N a1).bind fun x5 =>
 k1 x5)
 else (k1 x1)
end Go.Vc
/-
  PLAIN LAWS OF CUT, 2: kinds, worths.
-/
namespace Go.Vc
set_option linter.unusedVariables false
set_option linter.unnecessarySimpa false
set_option linter.unusedSimpArgs false
set_option linter.unusedSimpArgs false

def okKind (k : Kind) : Bool := (decide (1 ≤ k.W) && decide (k.W ≤ 12)) && (decide (1 ≤ k.H) && decide (k.H ≤ 12)) && (decide (0 ≤ k.Value) && decide (k.Value ≤ 1000))
def kindsS (l : List Kind) : Int := if (l.length : Int) = 0 then 1 else if 6 < (l.length : Int) then 2 else bif l.any (fun k => !okKind k) then 3 else 0
theorem f71_eq {N : Nat} {k : Kind} : f71 N k = some (!okKind k) := by
  unfold f71 okKind
  simp only [f52_eq, Option.bind_some]
  cases (decide (1 ≤ k.W) && decide (k.W ≤ 12)) <;> cases (decide (1 ≤ k.H) && decide (k.H ≤ 12)) <;> cases (decide (0 ≤ k.Value) && decide (k.Value ≤ 1000)) <;> rfl
theorem f48_eq {N : Nat} {l : List Kind} (h : l.length ≤ 30) (hN : 30 < N) : f48 N l = some (kindsS l) := by
  have h2 : f48_i501_i502000102_2 l N f48_i501_i502000102_c7 N (0 : Int) = bif l.any (fun k => !okKind k) then some 3 else some 0 := by
    have := loopL (l := l) (F := fun n (_ : Unit) j => f48_i501_i502000102_2 l N f48_i501_i502000102_c7 n j) (g := fun i x (_ : Unit) c => bif (!okKind x) then some (3 : Int) else c ()) (k := fun _ => f48_i501_i502000102_c7)
      (fun n s j x hx => by
        have hi := (List.getElem?_eq_some_iff.1 hx).1
        simp only [f48_i501_i502000102_2, f48_i501_i502000102_2b, ix_nat, hx, Option.bind_some, decide_eq_true (show (j : Int) < (l.length : Int) by omega), cond_true, W_nat (show j < 9223372036854775807 by omega), f71_eq, decide_eq_true (show (0 : Int) ≤ (j : Int) by omega)])
      (fun n s => by simp [f48_i501_i502000102_2, f48_i501_i502000102_2b]) N () (by omega)
    exact this.trans (any_fold _ _)
  unfold f48 kindsS
  simp only [joinK, h2]
  by_cases c1 : (l.length : Int) = 0
  · simp [c1]
  · by_cases c2 : 6 < (l.length : Int)
    · rw [if_neg c1, if_pos c2, decide_eq_false c1, decide_eq_true c2]; rfl
    · simp only [c1, c2, decide_false, cond_false, if_false]
      cases l.any (fun k => !okKind k) <;> rfl
theorem f50_eq {N : Nat} {l : List Kind} (h : l.length ≤ 30) (hN : 30 < N) : f50 N l = some (kindsS l) := by
  have h2 : f50_6 l N f50_c11 N (0 : Int) = bif l.any (fun k => !okKind k) then some 3 else some 0 := by
    have := loopL (l := l) (F := fun n (_ : Unit) j => f50_6 l N f50_c11 n j) (g := fun i x (_ : Unit) c => bif (!okKind x) then some (3 : Int) else c ()) (k := fun _ => f50_c11)
      (fun n s j x hx => by
        have hi := (List.getElem?_eq_some_iff.1 hx).1
        simp only [f50_6, f50_6b, ix_nat, hx, Option.bind_some, decide_eq_true (show (j : Int) < (l.length : Int) by omega), cond_true, W_nat (show j < 9223372036854775807 by omega), f56_eq, okKind]
        cases (decide (1 ≤ x.W) && decide (x.W ≤ 12)) <;> cases (decide (1 ≤ x.H) && decide (x.H ≤ 12)) <;> cases (decide (0 ≤ x.Value) && decide (x.Value ≤ 1000)) <;> rfl)
      (fun n s => by simp [f50_6, f50_6b]) N () (by omega)
    exact this.trans (any_fold _ _)
  unfold f50 kindsS
  simp only [joinK, h2]
  by_cases c1 : (l.length : Int) = 0
  · simp [c1]
  · by_cases c2 : 6 < (l.length : Int)
    · rw [if_neg c1, if_pos c2, decide_eq_false c1, decide_eq_true c2]; rfl
    · simp only [c1, c2, decide_false, cond_false, if_false]
      cases l.any (fun k => !okKind k) <;> rfl
/-- the greatest Value of a kind of a size, from a start on -/
def bestV (w h : Int) : List Kind → Int → Int
  | [], o => o
  | k :: r, o => if k.W = w ∧ k.H = h then bestV w h r (max o k.Value) else bestV w h r o
def hasV (w h : Int) (l : List Kind) : Bool := l.any fun k => decide (k.W = w) && decide (k.H = h)
theorem f49_fold {k : Int → Bool → Option (Int × Bool)} {w h : Int} : ∀ (l : List Kind) (i : Nat) (o : Int) (b : Bool),
    foldK (fun _ (x : Kind) (s : Int × Bool) c => if x.W = w ∧ x.H = h then c (max s.1 x.Value, true) else c s) (fun s => k s.1 s.2) i l (o, b) = k (bestV w h l o) (b || hasV w h l)
  | [], i, o, b => by simp [foldK, bestV, hasV]
  | x :: r, i, o, b => by
    simp only [foldK, bestV, hasV, List.any_cons]
    by_cases c : x.W = w ∧ x.H = h
    · simp only [c, and_self, if_true]
      rw [f49_fold r (i + 1)]
      simp [c]
    · simp only [c, if_false]
      rw [f49_fold r (i + 1)]
      have : (decide (x.W = w) && decide (x.H = h)) = false := by simpa using c
      rw [this, Bool.false_or]; rfl
theorem f49_eq {N : Nat} {w h : Int} {l : List Kind} (hl : l.length ≤ 30) (hN : 30 < N) : f49 N w h l = some (bestV w h l 0, hasV w h l) := by
  show f49_3 w h l f49_c8 N (0 : Int) false (0 : Int) = _
  have := loopL (l := l) (F := fun n (s : Int × Bool) j => f49_3 w h l f49_c8 n s.1 s.2 j) (g := fun _ (x : Kind) (s : Int × Bool) c => if x.W = w ∧ x.H = h then c (max s.1 x.Value, true) else c s) (k := fun s => f49_c8 s.1 s.2)
    (fun n s j x hx => by
      have hi := (List.getElem?_eq_some_iff.1 hx).1
      simp only [f49_3, f49_3b, ix_nat, hx, Option.bind_some, decide_eq_true (show (j : Int) < (l.length : Int) by omega), cond_true, W_nat (show j < 9223372036854775807 by omega)]
      by_cases c1 : x.W = w <;> by_cases c2 : x.H = h <;> simp [c1, c2])
    (fun n s => by simp [f49_3, f49_3b]) N (0, false) (by omega)
  refine this.trans ?_
  rw [f49_fold]
  simp [f49_c8]
theorem f51_fold {k : Int → Option Int} {w h : Int} : ∀ (l : List Kind) (i : Nat) (o : Int),
    foldK (fun _ (x : Kind) (s : Int) c => if x.W = w ∧ x.H = h then c (max s x.Value) else c s) k i l o = k (bestV w h l o)
  | [], i, o => by simp [foldK, bestV]
  | x :: r, i, o => by
    simp only [foldK, bestV]
    by_cases c : x.W = w ∧ x.H = h
    · simp only [c, and_self, if_true]; exact f51_fold r (i + 1) _
    · simp only [c, if_false]; exact f51_fold r (i + 1) _
theorem f51_eq {N : Nat} {w h : Int} {l : List Kind} (hl : l.length ≤ 30) (hN : 30 < N) : f51 N w h l = some (bestV w h l (-1)) := by
  show f51_3 w h l f51_c7 N (-1 : Int) (0 : Int) = _
  have := loopL (l := l) (F := fun n (s : Int) j => f51_3 w h l f51_c7 n s j) (g := fun _ (x : Kind) (s : Int) c => if x.W = w ∧ x.H = h then c (max s x.Value) else c s) (k := f51_c7)
    (fun n s j x hx => by
      have hi := (List.getElem?_eq_some_iff.1 hx).1
      simp only [f51_3, f51_3b, ix_nat, hx, Option.bind_some, decide_eq_true (show (j : Int) < (l.length : Int) by omega), cond_true, W_nat (show j < 9223372036854775807 by omega)]
      by_cases c1 : x.W = w <;> by_cases c2 : x.H = h <;> simp [c1, c2])
    (fun n s => by simp [f51_3, f51_3b]) N (-1) (by omega)
  refine this.trans ?_
  rw [f51_fold]
  simp [f51_c7]
theorem bestV_le {w h : Int} : ∀ (l : List Kind) (o : Int), o ≤ bestV w h l o
  | [], o => Int.le_refl _
  | k :: r, o => by
    simp only [bestV]
    split
    · exact Int.le_trans (Int.le_max_left _ _) (bestV_le r _)
    · exact bestV_le r o
theorem bestV_ub {w h : Int} : ∀ (l : List Kind) (o : Int), (∀ k, k ∈ l → okKind k = true) → o ≤ 1000 → bestV w h l o ≤ 1000
  | [], o, _, ho => ho
  | k :: r, o, hk, ho => by
    simp only [bestV]
    have := hk k (by simp)
    simp only [okKind, Bool.and_eq_true, decide_eq_true_eq] at this
    split
    · exact bestV_ub r _ (fun k hk' => hk k (by simp [hk'])) (by omega)
    · exact bestV_ub r _ (fun k hk' => hk k (by simp [hk'])) ho
/-- with good kinds: the two starts agree where there is a kind of the size -/
theorem bestV_neg {w h : Int} : ∀ (l : List Kind), (∀ k, k ∈ l → okKind k = true) → bestV w h l (-1) = bif hasV w h l then bestV w h l 0 else -1
  | [], _ => by simp [bestV, hasV]
  | k :: r, hk => by
    have h1 := hk k (by simp)
    simp only [okKind, Bool.and_eq_true, decide_eq_true_eq] at h1
    simp only [bestV, hasV, List.any_cons]
    by_cases c : k.W = w ∧ k.H = h
    · have e1 : max (-1) k.Value = k.Value := by omega
      have e2 : max 0 k.Value = k.Value := by omega
      simp [c, e1, e2]
    · have : (decide (k.W = w) && decide (k.H = h)) = false := by simpa using c
      rw [this, Bool.false_or, if_neg c, if_neg c]
      exact bestV_neg r fun k hk' => hk k (by simp [hk'])
/-- what labels are worth -/
def worthL (ks : List Kind) : List Label → Int → Option Int
  | [], s => some s
  | x :: r, s => bif hasV x.W x.H ks then worthL ks r (W (s + bestV x.W x.H ks 0)) else none
def worthR : Option Int → Int × Int
  | some s => (s, 0)
  | none => (0, 13)
def worthS (a : Layout) (ks : List Kind) : Int × Int :=
  if checkS a = 0 then (if kindsS ks = 0 then worthR (worthL ks a.Labels 0) else (0, kindsS ks)) else (0, checkS a)
theorem worth_fold {ks : List Kind} : ∀ (l : List Label) (i : Nat) (s : Int),
    foldK (fun _ (x : Label) (s : Int) c => bif hasV x.W x.H ks then c (W (s + bestV x.W x.H ks 0)) else some ((0 : Int), (13 : Int))) (fun s => some (s, (0 : Int))) i l s = some (worthR (worthL ks l s))
  | [], i, s => rfl
  | x :: r, i, s => by
    simp only [foldK, worthL]
    cases hasV x.W x.H ks with
    | true => exact worth_fold r (i + 1) _
    | false => rfl
theorem kindsS_ok {ks : List Kind} (h : kindsS ks = 0) : ∀ k, k ∈ ks → okKind k = true := by
  unfold kindsS at h
  split at h
  · cases h
  · split at h
    · cases h
    · cases hh : ks.any (fun k => !okKind k) with
      | true => rw [hh] at h; cases h
      | false =>
        intro k hk
        have := List.any_eq_false.1 hh k hk
        simpa using this
theorem f17_eq {N : Nat} {a : Layout} {ks : List Kind} (h : a.Labels.length ≤ 30) (hk : ks.length ≤ 30) (hN : 30 < N) : f17 N a ks = some (worthS a ks) := by
  have h8 : f17_8 a ks N f17_c15 N (0 : Int) (0 : Int) = some (worthR (worthL ks a.Labels 0)) := by
    have := loopL (l := a.Labels) (F := fun n (s : Int) j => f17_8 a ks N f17_c15 n s j) (g := fun _ (x : Label) (s : Int) c => bif hasV x.W x.H ks then c (W (s + bestV x.W x.H ks 0)) else some ((0 : Int), (13 : Int))) (k := f17_c15)
      (fun n s j x hx => by
        have hi := (List.getElem?_eq_some_iff.1 hx).1
        simp only [f17_8, f17_8b, ix_nat, hx, Option.bind_some, decide_eq_true (show (j : Int) < (a.Labels.length : Int) by omega), cond_true, W_nat (show j < 9223372036854775807 by omega), f49_eq hk hN]
        cases hasV x.W x.H ks <;> rfl)
      (fun n s => by simp [f17_8, f17_8b]) N 0 (by omega)
    exact this.trans (worth_fold _ _ _)
  unfold f17 worthS
  simp only [f20_eq h hN, f48_eq hk hN, Option.bind_some, joinK, f17_c4, h8]
  by_cases c1 : checkS a = 0
  · by_cases c2 : kindsS ks = 0 <;> simp [c1, c2]
  · simp [c1]
theorem f18_eq {N : Nat} {a : Layout} {ks : List Kind} (h : a.Labels.length ≤ 30) (hk : ks.length ≤ 30) (hN : 30 < N) : f18 N a ks = some (worthS a ks) := by
  have h8 : kindsS ks = 0 → f18_8 a ks N f18_c14 N (0 : Int) (0 : Int) = some (worthR (worthL ks a.Labels 0)) := by
    intro hok
    have hok := kindsS_ok hok
    have := loopL (l := a.Labels) (F := fun n (s : Int) j => f18_8 a ks N f18_c14 n s j) (g := fun _ (x : Label) (s : Int) c => bif hasV x.W x.H ks then c (W (s + bestV x.W x.H ks 0)) else some ((0 : Int), (13 : Int))) (k := f18_c14)
      (fun n s j x hx => by
        have hi := (List.getElem?_eq_some_iff.1 hx).1
        simp only [f18_8, f18_8b, ix_nat, hx, Option.bind_some, decide_eq_true (show (j : Int) < (a.Labels.length : Int) by omega), cond_true, W_nat (show j < 9223372036854775807 by omega), f51_eq hk hN, bestV_neg ks hok]
        cases hv : hasV x.W x.H ks with
        | false => rfl
        | true =>
          have := bestV_le (w := x.W) (h := x.H) ks 0
          simp [show ¬ bestV x.W x.H ks 0 < 0 by omega])
      (fun n s => by simp [f18_8, f18_8b]) N 0 (by omega)
    exact this.trans (worth_fold _ _ _)
  unfold f18 worthS
  simp only [f21_eq h hN, f50_eq hk hN, Option.bind_some, joinK, f18_c4]
  by_cases c1 : checkS a = 0
  · by_cases c2 : kindsS ks = 0
    · simp [c1, c2, h8 c2]
    · simp [c1, c2]
  · simp [c1]
end Go.Vc
namespace Go.Vc
open Go.Proofs
set_option linter.unusedVariables false
set_option linter.unnecessarySimpa false
set_option linter.unusedSimpArgs false
def f62_c7 (v5 : List Label) : Option ((List Label)) :=
 some (v5)
def f62_3b (r3 : (List Label) → Int → Option ((List Label))) (a0 : List Label) (a1 : Label) (k0 : (List Label) → Option ((List Label))) (v5 : List Label) (v6 : Int) : Option ((List Label)) :=
 bif decide (v6 < (List.length a0 : Int)) then ((ix a0 v6).bind fun x1 =>
 bif decide (a1.X ≤ x1.X) then ((ix a0 v6).bind fun x2 =>
 bif decide (a1.Y ≤ x2.Y) then ((ix a0 v6).bind fun x3 =>
 (ix a0 v6).bind fun x4 =>
 bif decide ((W (x3.X + x4.W)) ≤ (W (a1.X + a1.W))) then ((ix a0 v6).bind fun x5 =>
 (ix a0 v6).bind fun x6 =>
 bif decide ((W (x5.Y + x6.H)) ≤ (W (a1.Y + a1.H))) then ((ix a0 v6).bind fun x7 =>
 (app 32 v5 [x7]).bind fun x8 =>
 r3 x8 (W (v6 + (1 : Int))))
 else (r3 v5 (W (v6 + (1 : Int)))))
 else (r3 v5 (W (v6 + (1 : Int)))))
 else (r3 v5 (W (v6 + (1 : Int)))))
 else (r3 v5 (W (v6 + (1 : Int)))))
 else (k0 v5)
def f62_3 (a0 : List Label) (a1 : Label) (k0 : (List Label) → Option ((List Label))) : Nat → (List Label) → Int → Option ((List Label))
  | 0, _, _ => none
  | n + 1, v5, v6 => f62_3b (f62_3 a0 a1 k0 n) a0 a1 k0 v5 v6
def f62 (N : Nat) (a0 : List Label) (a1 : Label) : Option ((List Label)) :=
 joinK f62_c7 fun k0 =>
 f62_3 a0 a1 k0 N [] (0 : Int)
end Go.Vc
namespace Go.Vc
open Go.Proofs
set_option linter.unusedVariables false
set_option linter.unnecessarySimpa false
set_option linter.unusedSimpArgs false
def f64 (N : Nat) (a0 : Label) (a1 : Cut) : Option (Label × Label × Bool) :=
 bif a1.Up then ((f56 N a1.At (W (a0.X + (1 : Int))) (W ((W (a0.X + a0.W)) - (1 : Int)))).bind fun x1 =>
 some ((Label.mk a0.X a0.Y (W (a1.At - a0.X)) a0.H), (Label.mk a1.At a0.Y (W ((W (a0.X + a0.W)) - a1.At)) a0.H), x1))
 else ((f56 N a1.At (W (a0.Y + (1 : Int))) (W ((W (a0.Y + a0.H)) - (1 : Int)))).bind fun x2 =>
 some ((Label.mk a0.X a0.Y a0.W (W (a1.At - a0.Y))), (Label.mk a0.X a1.At a0.W (W ((W (a0.Y + a0.H)) - a1.At))), x2))
end Go.Vc
namespace Go.Vc
open Go.Proofs
set_option linter.unusedVariables false
set_option linter.unnecessarySimpa false
set_option linter.unusedSimpArgs false
def f63 (N : Nat) (a0 : List Label) (a1 : Label) (a2 : Cut) : Option (Bool) :=
 (f64 N a1 a2).bind fun x1 =>
 bif !x1.2.2 then (some (false))
 else ((f62 N a0 x1.1).bind fun x2 =>
 (f62 N a0 x1.2.1).bind fun x3 =>
 bif decide ((0 : Int) < (List.length x2 : Int)) then (bif decide ((0 : Int) < (List.length x3 : Int)) then (some (decide ((W ((List.length x2 : Int) + (List.length x3 : Int))) = (List.length a0 : Int))))
 else (some (false)))
 else (some (false)))
end Go.Vc
namespace Go.Vc
open Go.Proofs
set_option linter.unusedVariables false
set_option linter.unnecessarySimpa false
set_option linter.unusedSimpArgs false
def f46_c12 (out5' : List Cut) : Option ((List Cut)) :=
 some (out5')
def f46_8b (r8 : (List Cut) → Int → Option ((List Cut))) (a0 : List Label) (a1 : Label) (N : Nat) (k0 : (List Cut) → Option ((List Cut))) (out5' : List Cut) (at7 : Int) : Option ((List Cut)) :=
 bif decide (at7 ≤ (12 : Int)) then ((f63 N a0 a1 (Cut.mk false at7)).bind fun x1 =>
 bif x1 then ((app 16 (out5') [(Cut.mk false at7)]).bind fun x2 =>
 r8 x2 (W (at7 + (1 : Int))))
 else (r8 (out5') (W (at7 + (1 : Int)))))
 else (k0 (out5'))
def f46_8 (a0 : List Label) (a1 : Label) (N : Nat) (k0 : (List Cut) → Option ((List Cut))) : Nat → (List Cut) → Int → Option ((List Cut))
  | 0, _, _ => none
  | n + 1, out5', at7 => f46_8b (f46_8 a0 a1 N k0 n) a0 a1 N k0 out5' at7
def f46_c7 (a0 : List Label) (a1 : Label) (N : Nat) (out5 : List Cut) : Option ((List Cut)) :=
 joinK f46_c12 fun k0 =>
 f46_8 a0 a1 N k0 N out5 (0 : Int)
def f46_3b (r3 : (List Cut) → Int → Option ((List Cut))) (a0 : List Label) (a1 : Label) (N : Nat) (k1 : (List Cut) → Option ((List Cut))) (out5 : List Cut) (at6 : Int) : Option ((List Cut)) :=
 bif decide (at6 ≤ (12 : Int)) then ((f63 N a0 a1 (Cut.mk true at6)).bind fun x3 =>
 bif x3 then ((app 16 out5 [(Cut.mk true at6)]).bind fun x4 =>
 r3 x4 (W (at6 + (1 : Int))))
 else (r3 out5 (W (at6 + (1 : Int)))))
 else (k1 out5)
def f46_3 (a0 : List Label) (a1 : Label) (N : Nat) (k1 : (List Cut) → Option ((List Cut))) : Nat → (List Cut) → Int → Option ((List Cut))
  | 0, _, _ => none
  | n + 1, out5, at6 => f46_3b (f46_3 a0 a1 N k1 n) a0 a1 N k1 out5 at6
def f46 (N : Nat) (a0 : List Label) (a1 : Label) : Option ((List Cut)) :=
 joinK (f46_c7 a0 a1 N) fun k1 =>
 f46_3 a0 a1 N k1 N [] (0 : Int)
end Go.Vc
namespace Go.Vc
open Go.Proofs
set_option linter.unusedVariables false
set_option linter.unnecessarySimpa false
set_option linter.unusedSimpArgs false
def f47 (N : Nat) (a0 : Layout) : Option (Label) :=
 some ((Label.mk (0 : Int) (0 : Int) a0.W a0.H))
end Go.Vc
namespace Go.Vc
open Go.Proofs
set_option linter.unusedVariables false
set_option linter.unnecessarySimpa false
set_option linter.unusedSimpArgs false
def f16 (N : Nat) (a0 : Layout) : Option ((List Cut) × Int) :=
 (f21 N a0).bind fun x1 =>
 bif decide (¬ x1 = (0 : Int)) then (some ([], x1))
 else ((f47 N a0).bind fun x2 =>
 (f46 N a0.Labels x2).bind fun x3 =>
 some (x3, (0 : Int)))
end Go.Vc
/-
  PLAIN LAWS OF CUT, 3: cuts of pieces.
-/
namespace Go.Vc
set_option linter.unusedVariables false
set_option linter.unnecessarySimpa false
set_option linter.unusedSimpArgs false
set_option linter.unusedSimpArgs false

/-- a label with sides, in a piece -/
structure Fits (p x : Label) : Prop where
  w : 1 ≤ x.W
  h : 1 ≤ x.H
  x0 : p.X ≤ x.X
  y0 : p.Y ≤ x.Y
  x1 : x.X + x.W ≤ p.X + p.W
  y1 : x.Y + x.H ≤ p.Y + p.H
/-- a piece of a sheet -/
structure Small (p : Label) : Prop where
  x0 : 0 ≤ p.X
  y0 : 0 ≤ p.Y
  x1 : p.X + p.W ≤ 12
  y1 : p.Y + p.H ≤ 12
  w : 0 ≤ p.W
  h : 0 ≤ p.H
def lo (c : Cut) (x : Label) : Int := bif c.Up then x.X else x.Y
def hi (c : Cut) (x : Label) : Int := bif c.Up then x.X + x.W else x.Y + x.H
def before (c : Cut) (x : Label) : Bool := decide (hi c x ≤ c.At)
def behind (c : Cut) (x : Label) : Bool := decide (c.At ≤ lo c x)
def inner (c : Cut) (p : Label) : Bool := decide (lo c p + 1 ≤ c.At) && decide (c.At ≤ hi c p - 1)
def isCut (p : Label) (l : List Label) (c : Cut) : Bool := inner c p && (l.all (fun x => before c x || behind c x) && (l.any (before c) && l.any (fun x => !before c x)))
def half1 (p : Label) (c : Cut) : Label := bif c.Up then ⟨p.X, p.Y, c.At - p.X, p.H⟩ else ⟨p.X, p.Y, p.W, c.At - p.Y⟩
def half2 (p : Label) (c : Cut) : Label := bif c.Up then ⟨c.At, p.Y, p.X + p.W - c.At, p.H⟩ else ⟨p.X, c.At, p.W, p.Y + p.H - c.At⟩

theorem before_iff {c : Cut} {x : Label} : before c x = true ↔ hi c x ≤ c.At := by unfold before; exact decide_eq_true_iff
theorem behind_iff {c : Cut} {x : Label} : behind c x = true ↔ c.At ≤ lo c x := by unfold behind; exact decide_eq_true_iff
theorem before_not {c : Cut} {x : Label} : before c x = false ↔ ¬ hi c x ≤ c.At := by unfold before; exact decide_eq_false_iff_not
theorem W_in {n : Int} (h : -1000000 ≤ n) (h2 : n ≤ 1000000) : W n = n := W_of (by omega) (by omega)
theorem lt_hi {p x : Label} (h : Fits p x) (c : Cut) : lo c x < hi c x := by
  unfold lo hi; have := h.w; have := h.h; cases c.Up <;> simp only [cond_true, cond_false] <;> omega
theorem not_both {p x : Label} (h : Fits p x) {c : Cut} (hb : before c x = true) : behind c x = false := by
  have := lt_hi h c
  simp only [before, behind, decide_eq_true_eq, decide_eq_false_iff_not] at *; omega

theorem isCut_perm {p : Label} {l l' : List Label} (h : l.Perm l') (c : Cut) : isCut p l c = isCut p l' c := by
  unfold isCut
  rw [h.all_eq, h.any_eq, h.any_eq]

/-! divide -/
theorem set_swap_perm {α : Type} {l : List α} {i j : Nat} {x y : α} (hi : l[i]? = some x) (hj : l[j]? = some y) : ((l.set i y).set j x).Perm l := by
  obtain ⟨hi', rfl⟩ := List.getElem?_eq_some_iff.1 hi
  obtain ⟨hj', rfl⟩ := List.getElem?_eq_some_iff.1 hj
  have h := Array.swap_perm (xs := l.toArray) (i := i) (j := j) (by simpa using hi') (by simpa using hj')
  have h2 := Array.perm_iff_toList_perm.1 h
  simpa [Array.swap_def] using h2
structure DivInv (c : Cut) (l : List Label) (i : Nat) (s : List Label × Nat) : Prop where
  perm : s.1.Perm l
  ni : s.2 ≤ i
  il : i ≤ l.length
  rest : ∀ j, i ≤ j → s.1[j]? = l[j]?
  bef : ∀ (j : Nat) x, j < s.2 → s.1[j]? = some x → before c x = true
  aft : ∀ (j : Nat) x, s.2 ≤ j → j < i → s.1[j]? = some x → before c x = false ∧ behind c x = true
theorem DivInv.init {c : Cut} {l : List Label} : DivInv c l 0 (l, 0) := ⟨.refl _, Nat.le_refl _, Nat.zero_le _, fun _ _ => rfl, fun j x h => by omega, fun j x h h' => by omega⟩
theorem DivInv.step_aft {c : Cut} {l : List Label} {i : Nat} {s : List Label × Nat} (h : DivInv c l i s) {x : Label} (hx : l[i]? = some x) (hb : before c x = false) (hb' : behind c x = true) : DivInv c l (i + 1) s :=
  { perm := h.perm, ni := by have := h.ni; omega, il := (List.getElem?_eq_some_iff.1 hx).1, rest := fun j hj => h.rest j (by omega), bef := h.bef,
    aft := fun j y hj hj' hy => by
      by_cases he : j = i
      · subst he
        rw [h.rest j (Nat.le_refl _), hx] at hy
        cases hy; exact ⟨hb, hb'⟩
      · exact h.aft j y hj (by omega) hy }
theorem DivInv.step_bef {c : Cut} {l : List Label} {i : Nat} {s : List Label × Nat} (h : DivInv c l i s) {x y : Label} (hx : l[i]? = some x) (hy : s.1[s.2]? = some y) (hb : before c x = true) : DivInv c l (i + 1) ((s.1.set i y).set s.2 x, s.2 + 1) := by
  have hxi : s.1[i]? = some x := by rw [h.rest i (Nat.le_refl _), hx]
  have hil := (List.getElem?_eq_some_iff.1 hxi).1
  have hnl := (List.getElem?_eq_some_iff.1 hy).1
  have hni := h.ni
  refine { perm := (set_swap_perm hxi hy).trans h.perm, ni := by simp only; omega, il := (List.getElem?_eq_some_iff.1 hx).1, rest := fun j hj => ?_, bef := fun j z hj hz => ?_, aft := fun j z hj hj' hz => ?_ }
  · simp only [List.getElem?_set, List.length_set]
    rw [if_neg (by omega), if_neg (by omega)]
    exact h.rest j (by omega)
  · simp only [List.getElem?_set, List.length_set] at hz
    by_cases he : s.2 = j
    · rw [if_pos he, if_pos hnl] at hz; cases hz; exact hb
    · rw [if_neg he, if_neg (by simp only at hj; omega)] at hz
      exact h.bef j z (by simp only at hj; omega) hz
  · simp only [List.getElem?_set, List.length_set] at hz
    simp only at hj
    rw [if_neg (by omega)] at hz
    by_cases he : i = j
    · rw [if_pos he, if_pos hil] at hz
      cases hz
      exact h.aft s.2 y (Nat.le_refl _) (by omega) hy
    · rw [if_neg he] at hz
      exact h.aft j z (by omega) (by omega) hz
/-- what divide answers -/
structure DivOK (p : Label) (l : List Label) (c : Cut) (r : Piece × Piece × Bool) : Prop where
  is : r.2.2 = isCut p l c
  l1 : isCut p l c = true → r.1.Label_ = half1 p c
  l2 : isCut p l c = true → r.2.1.Label_ = half2 p c
  p1 : isCut p l c = true → r.1.labels.Perm (l.filter (before c))
  p2 : isCut p l c = true → r.2.1.labels.Perm (l.filter fun x => !before c x)
theorem DivInv.fin {c : Cut} {l : List Label} {s : List Label × Nat} (h : DivInv c l l.length s) : (s.1.take s.2).Perm (l.filter (before c)) ∧ (s.1.drop s.2).Perm (l.filter fun x => !before c x) ∧
    l.all (fun x => before c x || behind c x) = true ∧ l.any (before c) = decide (0 < s.2) ∧ l.any (fun x => !before c x) = decide (s.2 < s.1.length) := by
  have hlen := h.perm.length_eq
  have hni := h.ni
  have t1 : ∀ x, x ∈ s.1.take s.2 → before c x = true := by
    intro x hx
    obtain ⟨j, hj, rfl⟩ := List.getElem_of_mem hx
    simp only [List.length_take] at hj
    exact h.bef j _ (by omega) (by simp)
  have t2 : ∀ x, x ∈ s.1.drop s.2 → before c x = false ∧ behind c x = true := by
    intro x hx
    obtain ⟨j, hj, rfl⟩ := List.getElem_of_mem hx
    simp only [List.length_drop] at hj
    exact h.aft (s.2 + j) _ (by omega) (by omega) (by simp)
  have f1 : s.1.filter (before c) = s.1.take s.2 := by
    conv => lhs; rw [← List.take_append_drop s.2 s.1]
    rw [List.filter_append, List.filter_eq_self.2 t1, List.filter_eq_nil_iff.2 (fun x hx => by rw [(t2 x hx).1]; simp), List.append_nil]
  have f2 : s.1.filter (fun x => !before c x) = s.1.drop s.2 := by
    conv => lhs; rw [← List.take_append_drop s.2 s.1]
    rw [List.filter_append, List.filter_eq_nil_iff.2 (fun x hx => by rw [t1 x hx]; simp), List.filter_eq_self.2 (fun x hx => by rw [(t2 x hx).1]; rfl), List.nil_append]
  have g1 := (h.perm.filter (before c))
  have g2 := (h.perm.filter fun x => !before c x)
  rw [f1] at g1; rw [f2] at g2
  refine ⟨g1, g2, ?_, ?_, ?_⟩
  · rw [← h.perm.all_eq, List.all_eq_true]
    intro x hx
    rw [← List.take_append_drop s.2 s.1, List.mem_append] at hx
    rcases hx with hx | hx
    · rw [t1 x hx]; rfl
    · rw [(t2 x hx).2]; simp
  · rw [← h.perm.any_eq, Bool.eq_iff_iff, List.any_eq_true, decide_eq_true_eq]
    constructor
    · rintro ⟨x, hx, hb⟩
      have : x ∈ s.1.filter (before c) := List.mem_filter.2 ⟨hx, hb⟩
      rw [f1] at this
      have := List.length_pos_of_mem this
      simp only [List.length_take] at this; omega
    · intro hp
      have hl : 0 < s.1.length := by omega
      exact ⟨s.1[0], List.getElem_mem hl, h.bef 0 _ hp (by simp)⟩
  · rw [← h.perm.any_eq, Bool.eq_iff_iff, List.any_eq_true, decide_eq_true_eq]
    constructor
    · rintro ⟨x, hx, hb⟩
      have : x ∈ s.1.filter (fun x => !before c x) := List.mem_filter.2 ⟨hx, hb⟩
      rw [f2] at this
      have := List.length_pos_of_mem this
      simp only [List.length_drop] at this; omega
    · intro hp
      exact ⟨s.1[s.2], List.getElem_mem hp, by rw [(h.aft s.2 _ (Nat.le_refl _) (by omega) (List.getElem?_eq_getElem hp)).1]; rfl⟩
theorem f53_eq {N : Nat} {x : Label} : f53 N x = some (x.X, W (x.X + x.W)) := rfl
theorem f55_eq {N : Nat} {x : Label} : f55 N x = some (x.Y, W (x.Y + x.H)) := rfl
theorem f69_up {N : Nat} {p : Label} {l : List Label} {a : Int} (hs : Small p) (hf : ∀ x, x ∈ l → Fits p x) (hl : l.length ≤ 30) (hN : 30 < N) : ∃ r, f69 N ⟨p, l⟩ ⟨true, a⟩ = some r ∧ DivOK p l ⟨true, a⟩ r := by
  have s1 := hs.x0; have s2 := hs.y0; have s3 := hs.x1; have s4 := hs.y1; have s5 := hs.w; have s6 := hs.h
  unfold f69
  simp only [cond_true, f53_eq, Option.bind_some, f52_eq, joinK]
  rw [W_in (n := p.X + p.W) (by omega) (by omega), W_in (n := p.X + 1) (by omega) (by omega), W_in (n := p.X + p.W - 1) (by omega) (by omega)]
  have hin : inner ⟨true, a⟩ p = (decide (p.X + 1 ≤ a) && decide (a ≤ p.X + p.W - 1)) := rfl
  cases hb0 : (decide (p.X + 1 ≤ a) && decide (a ≤ p.X + p.W - 1)) with
  | false =>
    have hno : isCut p l ⟨true, a⟩ = false := by unfold isCut; rw [hin, hb0]; rfl
    refine ⟨_, rfl, ⟨hno.symm, ?_, ?_, ?_, ?_⟩⟩ <;> (intro h; rw [hno] at h; cases h)
  | true =>
    simp only [Bool.not_true, cond_false]
    have ha : p.X + 1 ≤ a ∧ a ≤ p.X + p.W - 1 := by rw [Bool.and_eq_true, decide_eq_true_iff, decide_eq_true_iff] at hb0; exact hb0
    clear hb0
    have hb0 : (decide (p.X + 1 ≤ a) && decide (a ≤ p.X + p.W - 1)) = true := by rw [decide_eq_true ha.1, decide_eq_true ha.2]; rfl
    rw [demB_same (fun h => by subst h; rfl), app_ok (by simp; omega) (by simp; omega)]
    simp only [Option.bind_some, List.nil_append]
    show ∃ r, f69_8 ⟨p, l⟩ ⟨true, a⟩ N l (f69_c17 ⟨p, l⟩ ⟨true, a⟩) N l ((0 : Nat) : Int) ((0 : Nat) : Int) = some r ∧ _
    refine loopI (F := fun m (s : List Label × Nat) i => f69_8 ⟨p, l⟩ ⟨true, a⟩ N l (f69_c17 ⟨p, l⟩ ⟨true, a⟩) m s.1 (s.2 : Int) i) l.length (fun i s => DivInv ⟨true, a⟩ l i s) (DivOK p l ⟨true, a⟩) ?_ ?_ N (l, 0) 0 DivInv.init (Nat.zero_le _) (by omega)
    · intro m s i hinv hil
      have hx : s.1[i]? = some l[i] := by rw [hinv.rest i (Nat.le_refl _)]; simp [hil]
      have hlen := hinv.perm.length_eq
      have hni := hinv.ni
      generalize hxx : l[i] = x at hx
      have hxl : l[i]? = some x := by rw [← hxx]; simp [hil]
      have hfx := hf x (List.mem_of_getElem? hxl)
      have t1 := hfx.w; have t2 := hfx.h; have t3 := hfx.x0; have t4 := hfx.y0; have t5 := hfx.x1; have t6 := hfx.y1
      have hW : W (x.X + x.W) = x.X + x.W := W_in (by omega) (by omega)
      simp only [f69_8, f69_8b, decide_eq_true (show (i : Int) < (l.length : Int) by omega), cond_true, ix_nat, hx, Option.bind_some, f53_eq, joinK, f69_c13, hW]
      by_cases c1 : x.X < a ∧ a < x.X + x.W
      · left
        have hno : isCut p l ⟨true, a⟩ = false := by
          have : (l.all fun x => before ⟨true, a⟩ x || behind ⟨true, a⟩ x) = false := by
            rw [List.all_eq_false]
            refine ⟨x, List.mem_of_getElem? hxl, ?_⟩
            simp only [Bool.or_eq_true, before_iff, behind_iff, lo, hi, cond_true]; omega
          unfold isCut; rw [this]; simp
        simp only [c1.1, c1.2, decide_true, cond_true]
        refine ⟨_, rfl, ⟨hno.symm, ?_, ?_, ?_, ?_⟩⟩ <;> (intro h; rw [hno] at h; cases h)
      · right
        have hgo : ∀ (A B : Option (Piece × Piece × Bool)), (bif decide (x.X < a) then bif decide (a < x.X + x.W) then A else B else B) = B := by
          intro A B
          by_cases d1 : x.X < a
          · have d2 : ¬ a < x.X + x.W := fun h => c1 ⟨d1, h⟩
            simp [d1, d2]
          · simp [d1]
        rw [hgo]
        by_cases c2 : x.X + x.W ≤ a
        · have hn : s.1[s.2]? = some (s.1[s.2]'(by omega)) := List.getElem?_eq_getElem _
          generalize s.1[s.2]'(by omega) = y at hn
          refine ⟨((s.1.set i y).set s.2 x, s.2 + 1), hinv.step_bef hxl hn (by simp [before, hi, c2]), ?_⟩
          have e1 : setx s.1 (i : Int) y = some (s.1.set i y) := by unfold setx; rw [if_pos ⟨by omega, by omega⟩]; simp
          have e2 : setx (s.1.set i y) (s.2 : Int) x = some ((s.1.set i y).set s.2 x) := by unfold setx; rw [if_pos ⟨by omega, by simp; omega⟩]; simp
          have e3 : ∃ z, (s.1.set i y)[s.2]? = some z := ⟨_, List.getElem?_eq_getElem (by simp; omega)⟩
          obtain ⟨z, e3⟩ := e3
          simp only [c2, decide_true, cond_true, hn, hx, Option.bind_some, e1, ix_nat, e3, e2, W_nat (show s.2 < 9223372036854775807 by omega), W_nat (show i < 9223372036854775807 by omega)]
        · refine ⟨s, hinv.step_aft hxl (by simp only [before_not, hi, cond_true]; omega) (by simp only [behind_iff, lo, cond_true]; by_cases d : x.X < a <;> omega), ?_⟩
          simp only [c2, decide_false, cond_false, W_nat (show i < 9223372036854775807 by omega)]
    · intro m s hinv
      have hlen := hinv.perm.length_eq
      have hni := hinv.ni
      obtain ⟨q1, q2, q3, q4, q5⟩ := hinv.fin
      simp only [f69_8, f69_8b, show decide ((l.length : Int) < (l.length : Int)) = false by simp, cond_false, f69_c17]
      rw [show sub s.1 0 (s.2 : Int) = some (s.1.take s.2) from (sub_nat (a := 0) (by omega) (by omega)).trans (by simp), sub_nat (by omega) (Nat.le_refl _)]
      rw [W_in (n := p.X + p.W) (by omega) (by omega), W_in (n := a - p.X) (by omega) (by omega), W_in (n := p.X + p.W - a) (by omega) (by omega)]
      have his : isCut p l ⟨true, a⟩ = (decide (0 < s.2) && decide (s.2 < s.1.length)) := by
        unfold isCut; rw [hin, hb0, q3, q4, q5]; simp
      have hd1 : (s.1.take s.1.length).drop s.2 = s.1.drop s.2 := by rw [List.take_length]
      simp only [Option.bind_some, hd1]
      by_cases d : 0 < s.2
      · simp only [show decide ((0 : Int) < (s.2 : Int)) = true by simp; omega, cond_true]
        refine ⟨_, rfl, ⟨?_, fun _ => rfl, fun _ => rfl, fun _ => q1, fun _ => q2⟩⟩
        rw [his]; simp [d]
      · simp only [show decide ((0 : Int) < (s.2 : Int)) = false by simp; omega, cond_false]
        refine ⟨_, rfl, ⟨?_, fun _ => rfl, fun _ => rfl, fun _ => q1, fun _ => q2⟩⟩
        rw [his]; simp [d]
theorem f69_lie {N : Nat} {p : Label} {l : List Label} {a : Int} (hs : Small p) (hf : ∀ x, x ∈ l → Fits p x) (hl : l.length ≤ 30) (hN : 30 < N) : ∃ r, f69 N ⟨p, l⟩ ⟨false, a⟩ = some r ∧ DivOK p l ⟨false, a⟩ r := by
  have s1 := hs.x0; have s2 := hs.y0; have s3 := hs.x1; have s4 := hs.y1; have s5 := hs.w; have s6 := hs.h
  unfold f69
  simp only [cond_false, f55_eq, Option.bind_some, f52_eq, joinK]
  rw [W_in (n := p.Y + p.H) (by omega) (by omega), W_in (n := p.Y + 1) (by omega) (by omega), W_in (n := p.Y + p.H - 1) (by omega) (by omega)]
  have hin : inner ⟨false, a⟩ p = (decide (p.Y + 1 ≤ a) && decide (a ≤ p.Y + p.H - 1)) := rfl
  cases hb0 : (decide (p.Y + 1 ≤ a) && decide (a ≤ p.Y + p.H - 1)) with
  | false =>
    have hno : isCut p l ⟨false, a⟩ = false := by unfold isCut; rw [hin, hb0]; rfl
    refine ⟨_, rfl, ⟨hno.symm, ?_, ?_, ?_, ?_⟩⟩ <;> (intro h; rw [hno] at h; cases h)
  | true =>
    simp only [Bool.not_true, cond_false]
    have ha : p.Y + 1 ≤ a ∧ a ≤ p.Y + p.H - 1 := by rw [Bool.and_eq_true, decide_eq_true_iff, decide_eq_true_iff] at hb0; exact hb0
    clear hb0
    have hb0 : (decide (p.Y + 1 ≤ a) && decide (a ≤ p.Y + p.H - 1)) = true := by rw [decide_eq_true ha.1, decide_eq_true ha.2]; rfl
    rw [demB_same (fun h => by subst h; rfl), app_ok (by simp; omega) (by simp; omega)]
    simp only [Option.bind_some, List.nil_append]
    show ∃ r, f69_8_1 ⟨p, l⟩ ⟨false, a⟩ N l (f69_c17_1 ⟨p, l⟩ ⟨false, a⟩) N l ((0 : Nat) : Int) ((0 : Nat) : Int) = some r ∧ _
    refine loopI (F := fun m (s : List Label × Nat) i => f69_8_1 ⟨p, l⟩ ⟨false, a⟩ N l (f69_c17_1 ⟨p, l⟩ ⟨false, a⟩) m s.1 (s.2 : Int) i) l.length (fun i s => DivInv ⟨false, a⟩ l i s) (DivOK p l ⟨false, a⟩) ?_ ?_ N (l, 0) 0 DivInv.init (Nat.zero_le _) (by omega)
    · intro m s i hinv hil
      have hx : s.1[i]? = some l[i] := by rw [hinv.rest i (Nat.le_refl _)]; simp [hil]
      have hlen := hinv.perm.length_eq
      have hni := hinv.ni
      generalize hxx : l[i] = x at hx
      have hxl : l[i]? = some x := by rw [← hxx]; simp [hil]
      have hfx := hf x (List.mem_of_getElem? hxl)
      have t1 := hfx.w; have t2 := hfx.h; have t3 := hfx.x0; have t4 := hfx.y0; have t5 := hfx.x1; have t6 := hfx.y1
      have hW : W (x.Y + x.H) = x.Y + x.H := W_in (by omega) (by omega)
      simp only [f69_8_1, f69_8_1b, decide_eq_true (show (i : Int) < (l.length : Int) by omega), cond_true, ix_nat, hx, Option.bind_some, f55_eq, joinK, f69_c13_1, hW]
      by_cases c1 : x.Y < a ∧ a < x.Y + x.H
      · left
        have hno : isCut p l ⟨false, a⟩ = false := by
          have : (l.all fun x => before ⟨false, a⟩ x || behind ⟨false, a⟩ x) = false := by
            rw [List.all_eq_false]
            refine ⟨x, List.mem_of_getElem? hxl, ?_⟩
            simp only [Bool.or_eq_true, before_iff, behind_iff, lo, hi, cond_false]; omega
          unfold isCut; rw [this]; simp
        simp only [c1.1, c1.2, decide_true, cond_true]
        refine ⟨_, rfl, ⟨hno.symm, ?_, ?_, ?_, ?_⟩⟩ <;> (intro h; rw [hno] at h; cases h)
      · right
        have hgo : ∀ (A B : Option (Piece × Piece × Bool)), (bif decide (x.Y < a) then bif decide (a < x.Y + x.H) then A else B else B) = B := by
          intro A B
          by_cases d1 : x.Y < a
          · have d2 : ¬ a < x.Y + x.H := fun h => c1 ⟨d1, h⟩
            simp [d1, d2]
          · simp [d1]
        rw [hgo]
        by_cases c2 : x.Y + x.H ≤ a
        · have hn : s.1[s.2]? = some (s.1[s.2]'(by omega)) := List.getElem?_eq_getElem _
          generalize s.1[s.2]'(by omega) = y at hn
          refine ⟨((s.1.set i y).set s.2 x, s.2 + 1), hinv.step_bef hxl hn (by simp [before, hi, c2]), ?_⟩
          have e1 : setx s.1 (i : Int) y = some (s.1.set i y) := by unfold setx; rw [if_pos ⟨by omega, by omega⟩]; simp
          have e2 : setx (s.1.set i y) (s.2 : Int) x = some ((s.1.set i y).set s.2 x) := by unfold setx; rw [if_pos ⟨by omega, by simp; omega⟩]; simp
          have e3 : ∃ z, (s.1.set i y)[s.2]? = some z := ⟨_, List.getElem?_eq_getElem (by simp; omega)⟩
          obtain ⟨z, e3⟩ := e3
          simp only [c2, decide_true, cond_true, hn, hx, Option.bind_some, e1, ix_nat, e3, e2, W_nat (show s.2 < 9223372036854775807 by omega), W_nat (show i < 9223372036854775807 by omega)]
        · refine ⟨s, hinv.step_aft hxl (by simp only [before_not, hi, cond_false]; omega) (by simp only [behind_iff, lo, cond_false]; by_cases d : x.Y < a <;> omega), ?_⟩
          simp only [c2, decide_false, cond_false, W_nat (show i < 9223372036854775807 by omega)]
    · intro m s hinv
      have hlen := hinv.perm.length_eq
      have hni := hinv.ni
      obtain ⟨q1, q2, q3, q4, q5⟩ := hinv.fin
      simp only [f69_8_1, f69_8_1b, show decide ((l.length : Int) < (l.length : Int)) = false by simp, cond_false, f69_c17_1]
      rw [show sub s.1 0 (s.2 : Int) = some (s.1.take s.2) from (sub_nat (a := 0) (by omega) (by omega)).trans (by simp), sub_nat (by omega) (Nat.le_refl _)]
      rw [W_in (n := p.Y + p.H) (by omega) (by omega), W_in (n := a - p.Y) (by omega) (by omega), W_in (n := p.Y + p.H - a) (by omega) (by omega)]
      have his : isCut p l ⟨false, a⟩ = (decide (0 < s.2) && decide (s.2 < s.1.length)) := by
        unfold isCut; rw [hin, hb0, q3, q4, q5]; simp
      have hd1 : (s.1.take s.1.length).drop s.2 = s.1.drop s.2 := by rw [List.take_length]
      simp only [Option.bind_some, hd1]
      by_cases d : 0 < s.2
      · simp only [show decide ((0 : Int) < (s.2 : Int)) = true by simp; omega, cond_true]
        refine ⟨_, rfl, ⟨?_, fun _ => rfl, fun _ => rfl, fun _ => q1, fun _ => q2⟩⟩
        rw [his]; simp [d]
      · simp only [show decide ((0 : Int) < (s.2 : Int)) = false by simp; omega, cond_false]
        refine ⟨_, rfl, ⟨?_, fun _ => rfl, fun _ => rfl, fun _ => q1, fun _ => q2⟩⟩
        rw [his]; simp [d]
theorem f69_ok {N : Nat} {p : Label} {l : List Label} {c : Cut} (hs : Small p) (hf : ∀ x, x ∈ l → Fits p x) (hl : l.length ≤ 30) (hN : 30 < N) : ∃ r, f69 N ⟨p, l⟩ c = some r ∧ DivOK p l c r := by
  obtain ⟨up, a⟩ := c
  cases up with
  | true => exact f69_up hs hf hl hN
  | false => exact f69_lie hs hf hl hN
end Go.Vc
namespace Go.Vc
open Go.Proofs
set_option linter.unusedVariables false
set_option linter.unnecessarySimpa false
set_option linter.unusedSimpArgs false
def f3_c15 (a0 : Layout) (N : Nat) (x3 : Layout) : Option (Bool) :=
 (f20 N a0).bind fun x9 =>
 (f21 N x3).bind fun x10 =>
 bif decide (x9 = x10) then ((f13 N ).bind fun x11 =>
 some (x11))
 else (some (false))
def f3_11b (r11 : Int → Option (Bool)) (a0 : Layout) (x3 : Layout) (x4 : (List Cut) × Int) (x5 : (List Cut) × Int) (k0 : Option (Bool)) (v14 : Int) : Option (Bool) :=
 bif decide (v14 < (List.length x4.1 : Int)) then ((ix x4.1 v14).bind fun x12 =>
 (ix x5.1 v14).bind fun x13 =>
 bif !((x12.Up == x13.Up) && (decide (x12.At = x13.At) && true)) then (some (false))
 else (r11 (W (v14 + (1 : Int)))))
 else k0
def f3_11 (a0 : Layout) (x3 : Layout) (x4 : (List Cut) × Int) (x5 : (List Cut) × Int) (k0 : Option (Bool)) : Nat → Int → Option (Bool)
  | 0, _ => none
  | n + 1, v14 => f3_11b (f3_11 a0 x3 x4 x5 k0 n) a0 x3 x4 x5 k0 v14
def f3 (N : Nat) (a0 : Layout) (a1 : List Kind) : Option (Bool) :=
 bif decide ((30 : Int) < (List.length a0.Labels : Int)) then ((f13 N ).bind fun x1 =>
 some (x1))
 else (bif decide ((30 : Int) < (List.length a1 : Int)) then ((f13 N ).bind fun x2 =>
 some (x2))
 else ((f14 N a0).bind fun x3 =>
 (f15 N a0).bind fun x4 =>
 (f16 N x3).bind fun x5 =>
 (f17 N a0 a1).bind fun x6 =>
 (f19 N a1).bind fun x7 =>
 (f18 N x3 x7).bind fun x8 =>
 bif decide (¬ x4.2 = x5.2) then (some (false))
 else (bif decide (¬ (List.length x4.1 : Int) = (List.length x5.1 : Int)) then (some (false))
 else (bif decide (¬ x6.1 = x8.1) then (some (false))
 else (bif decide (¬ x6.2 = x8.2) then (some (false))
 else (joinK (f3_c15 a0 N x3) fun k0 =>
 f3_11 a0 x3 x4 x5 k0 N (0 : Int)))))))
end Go.Vc
/-
  PLAIN LAWS OF CUT, 4: all cuts of a piece; the statement CutLayouts.
-/
namespace Go.Vc
set_option linter.unusedVariables false
set_option linter.unnecessarySimpa false
set_option linter.unusedSimpArgs false
set_option linter.unusedSimpArgs false

def lineCuts (up : Bool) (p : Label) (l : List Label) : List Cut := ((List.range' 0 12).filter fun i : Nat => isCut p l ⟨up, (i : Int)⟩).map fun i : Nat => ⟨up, (i : Int)⟩
def cutsL (p : Label) (l : List Label) : List Cut := lineCuts true p l ++ lineCuts false p l
theorem forK_filter {ρ : Type} {f : Nat → Bool} {g : Nat → Cut} {k : List Cut → Option ρ} : ∀ (m i : Nat) (s : List Cut), s.length + m ≤ 1000 →
    forK (fun i (s : List Cut) c => bif f i then (app 16 s [g i]).bind c else c s) k i m s = k (s ++ ((List.range' i m).filter f).map g)
  | 0, i, s, _ => by simp [forK]
  | m + 1, i, s, h => by
    simp only [forK, List.range'_succ, List.filter_cons]
    cases f i with
    | true =>
      rw [cond_true, app_ok (by simp; omega) (by simp; omega)]
      simp only [Option.bind_some]
      rw [forK_filter m (i + 1) _ (by simp; omega)]
      simp
    | false => rw [cond_false, forK_filter m (i + 1) s (by omega)]; simp
theorem f45_eq {N : Nat} {p : Label} {l : List Label} (hs : Small p) (hf : ∀ x, x ∈ l → Fits p x) (hl : l.length ≤ 30) (hN : 30 < N) : f45 N ⟨p, l⟩ = some (cutsL p l) := by
  have h6 : ∀ (v : Nat) (up : Bool) (k1 : List Cut → Option (List Cut)) (s : List Cut), s.length ≤ 100 → f45_6 ⟨p, l⟩ N (v : Int) k1 up N s (0 : Int) = k1 (s ++ lineCuts up p l) := by
    intro v up k1 s hsl
    have := loopN (F := fun n (s : List Cut) j => f45_6 ⟨p, l⟩ N (v : Int) k1 up n s j) (g := fun i (s : List Cut) c => bif isCut p l ⟨up, (i : Int)⟩ then (app 16 s [⟨up, (i : Int)⟩]).bind c else c s) (k := k1) 0 12 (by omega)
      (fun n s i _ hi => by
        obtain ⟨r, h1, h2⟩ := f69_ok (c := ⟨up, (i : Int)⟩) hs hf hl hN
        simp only [f45_6, f45_6b, decide_eq_true (show (i : Int) < 12 by omega), cond_true, h1, Option.bind_some, h2.is, W_nat (show i < 9223372036854775807 by omega)])
      (fun n s => rfl) N s (by omega)
    refine this.trans ?_
    rw [forK_filter _ _ _ (by omega)]
    rfl
  show f45_3 ⟨p, l⟩ N f45_c13 N [] (0 : Int) = _
  have := loopL (l := [true, false]) (F := fun n (s : List Cut) j => f45_3 ⟨p, l⟩ N f45_c13 n s j) (g := fun i up (s : List Cut) c => f45_6 ⟨p, l⟩ N (i : Int) c up N s (0 : Int)) (k := f45_c13)
    (fun n s i x hx => by
      have hi := (List.getElem?_eq_some_iff.1 hx).1
      simp only [f45_3, f45_3b, joinK, ix_nat, hx, Option.bind_some, decide_eq_true (show (i : Int) < (([true, false] : List Bool).length : Int) by simp at hi ⊢; omega), cond_true]
      congr 1
      funext s'
      simp only [f45_c12, W_nat (show i < 9223372036854775807 by simp at hi; omega)])
    (fun n s => rfl) N [] (by simp; omega)
  refine this.trans ?_
  simp only [foldK]
  have hlc : (lineCuts true p l).length ≤ 12 := by
    unfold lineCuts
    rw [List.length_map]
    exact Nat.le_trans (List.length_filter_le _ _) (by simp)
  rw [h6 0 true _ [] (by simp), h6 1 false _ _ (by simp; omega)]
  rfl

/-! The document's way: labels that lie inside. -/
def insideB (p x : Label) : Bool := decide (p.X ≤ x.X) && (decide (p.Y ≤ x.Y) && (decide (W (x.X + x.W) ≤ W (p.X + p.W)) && decide (W (x.Y + x.H) ≤ W (p.Y + p.H))))
theorem filter_fold {k : List Label → Option (List Label)} {f : Label → Bool} : ∀ (l : List Label) (i : Nat) (s : List Label), s.length + l.length ≤ 1000 →
    foldK (fun _ x (s : List Label) c => bif f x then (app 32 s [x]).bind c else c s) k i l s = k (s ++ l.filter f)
  | [], i, s, _ => by simp [foldK]
  | x :: r, i, s, h => by
    simp only [List.length_cons] at h
    simp only [foldK, List.filter_cons]
    cases f x with
    | true =>
      rw [cond_true, app_ok (by simp; omega) (by simp; omega)]
      simp only [Option.bind_some]
      rw [filter_fold r (i + 1) _ (by simp; omega)]
      simp
    | false => rw [cond_false, filter_fold r (i + 1) s (by omega)]; simp
theorem f62_eq {N : Nat} {p : Label} {l : List Label} (hl : l.length ≤ 30) (hN : 30 < N) : f62 N l p = some (l.filter (insideB p)) := by
  show f62_3 l p f62_c7 N [] (0 : Int) = _
  have := loopL (l := l) (F := fun n (s : List Label) j => f62_3 l p f62_c7 n s j) (g := fun _ x (s : List Label) c => bif insideB p x then (app 32 s [x]).bind c else c s) (k := f62_c7)
    (fun n s i x hx => by
      have hi := (List.getElem?_eq_some_iff.1 hx).1
      simp only [f62_3, f62_3b, ix_nat, hx, Option.bind_some, decide_eq_true (show (i : Int) < (l.length : Int) by omega), cond_true, W_nat (show i < 9223372036854775807 by omega), insideB]
      cases decide (p.X ≤ x.X) <;> cases decide (p.Y ≤ x.Y) <;> cases decide (W (x.X + x.W) ≤ W (p.X + p.W)) <;> cases decide (W (x.Y + x.H) ≤ W (p.Y + p.H)) <;> rfl)
    (fun n s => by simp [f62_3, f62_3b]) N [] (by omega)
  refine this.trans ?_
  rw [filter_fold _ _ _ (by simp; omega)]
  simp [f62_c7]
theorem insideB_iff {p x : Label} (hp : -1000 ≤ p.X + p.W ∧ p.X + p.W ≤ 1000 ∧ -1000 ≤ p.Y + p.H ∧ p.Y + p.H ≤ 1000) (hx : -1000 ≤ x.X + x.W ∧ x.X + x.W ≤ 1000 ∧ -1000 ≤ x.Y + x.H ∧ x.Y + x.H ≤ 1000) :
    insideB p x = true ↔ p.X ≤ x.X ∧ p.Y ≤ x.Y ∧ x.X + x.W ≤ p.X + p.W ∧ x.Y + x.H ≤ p.Y + p.H := by
  unfold insideB
  rw [W_in (n := x.X + x.W) (by omega) (by omega), W_in (n := p.X + p.W) (by omega) (by omega), W_in (n := x.Y + x.H) (by omega) (by omega), W_in (n := p.Y + p.H) (by omega) (by omega)]
  simp only [Bool.and_eq_true, decide_eq_true_eq]
/-- the halves of a cut, by the labels in them -/
theorem inside_half1 {p x : Label} {c : Cut} (hs : Small p) (hx : Fits p x) (hc : inner c p = true) : insideB (half1 p c) x = before c x := by
  have s1 := hs.x0; have s2 := hs.y0; have s3 := hs.x1; have s4 := hs.y1; have s5 := hs.w; have s6 := hs.h
  have t1 := hx.w; have t2 := hx.h; have t3 := hx.x0; have t4 := hx.y0; have t5 := hx.x1; have t6 := hx.y1
  obtain ⟨up, a⟩ := c
  unfold inner at hc
  rw [Bool.and_eq_true, decide_eq_true_iff, decide_eq_true_iff] at hc
  rw [Bool.eq_iff_iff, before_iff]
  cases up with
  | true =>
    have hc : p.X + 1 ≤ a ∧ a ≤ p.X + p.W - 1 := hc
    rw [insideB_iff (p := half1 p ⟨true, a⟩) (x := x) (by show -1000 ≤ p.X + (a - p.X) ∧ p.X + (a - p.X) ≤ 1000 ∧ -1000 ≤ p.Y + p.H ∧ p.Y + p.H ≤ 1000; omega) (by omega)]
    show (p.X ≤ x.X ∧ p.Y ≤ x.Y ∧ x.X + x.W ≤ p.X + (a - p.X) ∧ x.Y + x.H ≤ p.Y + p.H) ↔ x.X + x.W ≤ a; omega
  | false =>
    have hc : p.Y + 1 ≤ a ∧ a ≤ p.Y + p.H - 1 := hc
    rw [insideB_iff (p := half1 p ⟨false, a⟩) (x := x) (by show -1000 ≤ p.X + p.W ∧ p.X + p.W ≤ 1000 ∧ -1000 ≤ p.Y + (a - p.Y) ∧ p.Y + (a - p.Y) ≤ 1000; omega) (by omega)]
    show (p.X ≤ x.X ∧ p.Y ≤ x.Y ∧ x.X + x.W ≤ p.X + p.W ∧ x.Y + x.H ≤ p.Y + (a - p.Y)) ↔ x.Y + x.H ≤ a; omega
theorem inside_half2 {p x : Label} {c : Cut} (hs : Small p) (hx : Fits p x) (hc : inner c p = true) : insideB (half2 p c) x = behind c x := by
  have s1 := hs.x0; have s2 := hs.y0; have s3 := hs.x1; have s4 := hs.y1; have s5 := hs.w; have s6 := hs.h
  have t1 := hx.w; have t2 := hx.h; have t3 := hx.x0; have t4 := hx.y0; have t5 := hx.x1; have t6 := hx.y1
  obtain ⟨up, a⟩ := c
  unfold inner at hc
  rw [Bool.and_eq_true, decide_eq_true_iff, decide_eq_true_iff] at hc
  rw [Bool.eq_iff_iff, behind_iff]
  cases up with
  | true =>
    have hc : p.X + 1 ≤ a ∧ a ≤ p.X + p.W - 1 := hc
    rw [insideB_iff (p := half2 p ⟨true, a⟩) (x := x) (by show -1000 ≤ a + (p.X + p.W - a) ∧ a + (p.X + p.W - a) ≤ 1000 ∧ -1000 ≤ p.Y + p.H ∧ p.Y + p.H ≤ 1000; omega) (by omega)]
    show (a ≤ x.X ∧ p.Y ≤ x.Y ∧ x.X + x.W ≤ a + (p.X + p.W - a) ∧ x.Y + x.H ≤ p.Y + p.H) ↔ a ≤ x.X; omega
  | false =>
    have hc : p.Y + 1 ≤ a ∧ a ≤ p.Y + p.H - 1 := hc
    rw [insideB_iff (p := half2 p ⟨false, a⟩) (x := x) (by show -1000 ≤ p.X + p.W ∧ p.X + p.W ≤ 1000 ∧ -1000 ≤ a + (p.Y + p.H - a) ∧ a + (p.Y + p.H - a) ≤ 1000; omega) (by omega)]
    show (p.X ≤ x.X ∧ a ≤ x.Y ∧ x.X + x.W ≤ p.X + p.W ∧ x.Y + x.H ≤ a + (p.Y + p.H - a)) ↔ a ≤ x.Y; omega
theorem f64_in {N : Nat} {p : Label} {c : Cut} (hs : Small p) (hc : inner c p = true) : f64 N p c = some (half1 p c, half2 p c, true) := by
  have s1 := hs.x0; have s2 := hs.y0; have s3 := hs.x1; have s4 := hs.y1; have s5 := hs.w; have s6 := hs.h
  obtain ⟨up, a⟩ := c
  unfold inner at hc
  have hc2 := hc
  rw [Bool.and_eq_true, decide_eq_true_iff, decide_eq_true_iff] at hc2
  unfold f64
  cases up with
  | true =>
    have hc2 : p.X + 1 ≤ a ∧ a ≤ p.X + p.W - 1 := hc2
    simp only [cond_true, f56_eq, Option.bind_some]
    rw [W_in (n := p.X + p.W) (by omega) (by omega), W_in (n := p.X + 1) (by omega) (by omega), W_in (n := p.X + p.W - 1) (by omega) (by omega), W_in (n := a - p.X) (by omega) (by omega), W_in (n := p.X + p.W - a) (by omega) (by omega), decide_eq_true hc2.1, decide_eq_true hc2.2]
    rfl
  | false =>
    have hc2 : p.Y + 1 ≤ a ∧ a ≤ p.Y + p.H - 1 := hc2
    simp only [cond_false, f56_eq, Option.bind_some]
    rw [W_in (n := p.Y + p.H) (by omega) (by omega), W_in (n := p.Y + 1) (by omega) (by omega), W_in (n := p.Y + p.H - 1) (by omega) (by omega), W_in (n := a - p.Y) (by omega) (by omega), W_in (n := p.Y + p.H - a) (by omega) (by omega), decide_eq_true hc2.1, decide_eq_true hc2.2]
    rfl
theorem f64_out {N : Nat} {p : Label} {c : Cut} (hs : Small p) (hc : inner c p = false) : ∃ a b, f64 N p c = some (a, b, false) := by
  have s1 := hs.x0; have s2 := hs.y0; have s3 := hs.x1; have s4 := hs.y1; have s5 := hs.w; have s6 := hs.h
  obtain ⟨up, a⟩ := c
  unfold f64
  cases up with
  | true =>
    have hc : (decide (p.X + 1 ≤ a) && decide (a ≤ p.X + p.W - 1)) = false := hc
    simp only [cond_true, f56_eq, Option.bind_some]
    rw [W_in (n := p.X + p.W) (by omega) (by omega), W_in (n := p.X + 1) (by omega) (by omega), W_in (n := p.X + p.W - 1) (by omega) (by omega)]
    exact ⟨_, _, by rw [hc]⟩
  | false =>
    have hc : (decide (p.Y + 1 ≤ a) && decide (a ≤ p.Y + p.H - 1)) = false := hc
    simp only [cond_false, f56_eq, Option.bind_some]
    rw [W_in (n := p.Y + p.H) (by omega) (by omega), W_in (n := p.Y + 1) (by omega) (by omega), W_in (n := p.Y + p.H - 1) (by omega) (by omega)]
    exact ⟨_, _, by rw [hc]⟩
theorem count_split {f g : Label → Bool} : ∀ (l : List Label), (∀ x, x ∈ l → f x = true → g x = false) → (l.filter f).length + (l.filter g).length ≤ l.length ∧ (((l.filter f).length + (l.filter g).length = l.length) ↔ l.all (fun x => f x || g x) = true)
  | [], _ => by simp
  | x :: r, h => by
    obtain ⟨h1, h2⟩ := count_split r fun y hy => h y (by simp [hy])
    have hx := h x (by simp)
    simp only [List.filter_cons, List.all_cons, Bool.and_eq_true]
    cases hf : f x with
    | true =>
      rw [hx hf]
      simp only [Bool.false_eq_true, if_false, if_true, List.length_cons, Bool.true_or, true_and]
      exact ⟨by omega, by rw [← h2]; omega⟩
    | false =>
      cases hg : g x with
      | true =>
        simp only [Bool.false_eq_true, if_false, if_true, List.length_cons, Bool.false_or, true_and]
        exact ⟨by omega, by rw [← h2]; omega⟩
      | false =>
        simp only [Bool.false_eq_true, if_false, List.length_cons, Bool.or_self, false_and, iff_false]
        exact ⟨by omega, by omega⟩
theorem any_filter {f : Label → Bool} {l : List Label} : l.any f = decide (0 < (l.filter f).length) := by
  rw [Bool.eq_iff_iff, List.any_eq_true, decide_eq_true_eq]
  constructor
  · rintro ⟨x, hx, hf⟩; exact List.length_pos_of_mem (List.mem_filter.2 ⟨hx, hf⟩)
  · intro h
    obtain ⟨x, hx⟩ := List.exists_mem_of_length_pos h
    exact ⟨x, (List.mem_filter.1 hx).1, (List.mem_filter.1 hx).2⟩
theorem filter_congr' {f g : Label → Bool} {l : List Label} (h : ∀ x, x ∈ l → f x = g x) : l.filter f = l.filter g := List.filter_congr h
theorem f63_eq {N : Nat} {p : Label} {l : List Label} {c : Cut} (hs : Small p) (hf : ∀ x, x ∈ l → Fits p x) (hl : l.length ≤ 30) (hN : 30 < N) : f63 N l p c = some (isCut p l c) := by
  unfold f63
  cases hin : inner c p with
  | false =>
    obtain ⟨a, b, h⟩ := f64_out (N := N) hs hin
    simp only [h, Option.bind_some]
    simp [isCut, hin]
  | true =>
    simp only [f64_in hs hin, Option.bind_some, f62_eq hl hN]
    have e1 : l.filter (insideB (half1 p c)) = l.filter (before c) := filter_congr' fun x hx => inside_half1 hs (hf x hx) hin
    have e2 : l.filter (insideB (half2 p c)) = l.filter (behind c) := filter_congr' fun x hx => inside_half2 hs (hf x hx) hin
    have hcs := count_split (f := before c) (g := behind c) l fun x hx hb => not_both (hf x hx) hb
    rw [e1, e2]
    simp only [Bool.not_true, cond_false, isCut, hin, Bool.true_and]
    have hle := hcs.1
    rw [W_in (by omega) (by omega)]
    have hall : l.all (fun x => before c x || behind c x) = decide (((l.filter (before c)).length : Int) + ((l.filter (behind c)).length : Int) = (l.length : Int)) := by
      rw [Bool.eq_iff_iff, ← hcs.2, decide_eq_true_eq]; omega
    have hany : l.any (before c) = decide (0 < ((l.filter (before c)).length : Int)) := by
      rw [any_filter, Bool.eq_iff_iff, decide_eq_true_eq, decide_eq_true_eq]; omega
    cases ha : l.all (fun x => before c x || behind c x) with
    | false =>
      rw [ha] at hall
      rw [← hall]
      cases decide (0 < ((l.filter (before c)).length : Int)) <;> cases decide (0 < ((l.filter (behind c)).length : Int)) <;> rfl
    | true =>
      rw [ha] at hall
      rw [← hall, ← hany]
      have hb : l.any (fun x => !before c x) = decide (0 < ((l.filter (behind c)).length : Int)) := by
        rw [any_filter, Bool.eq_iff_iff, decide_eq_true_eq, decide_eq_true_eq]
        have : l.filter (fun x => !before c x) = l.filter (behind c) := filter_congr' fun x hx => by
          have := List.all_eq_true.1 ha x hx
          cases hbx : before c x with
          | true => rw [not_both (hf x hx) hbx]; rfl
          | false => rw [hbx] at this; simpa using this.symm
        rw [this]; omega
      rw [hb]
      cases l.any (before c) <;> cases decide (0 < ((l.filter (behind c)).length : Int)) <;> rfl
theorem isCut_12 {p : Label} {l : List Label} {up : Bool} (hs : Small p) : isCut p l ⟨up, ((12 : Nat) : Int)⟩ = false := by
  have s3 := hs.x1; have s4 := hs.y1
  have : inner ⟨up, ((12 : Nat) : Int)⟩ p = false := by
    unfold inner
    rw [Bool.and_eq_false_iff]
    right
    rw [decide_eq_false_iff_not]
    cases up <;> simp only [hi, cond_true, cond_false] <;> omega
  unfold isCut; rw [this]; rfl
theorem f46_eq {N : Nat} {p : Label} {l : List Label} (hs : Small p) (hf : ∀ x, x ∈ l → Fits p x) (hl : l.length ≤ 30) (hN : 30 < N) : f46 N l p = some (cutsL p l) := by
  have h13 : ∀ up, ((List.range' 0 13).filter fun i : Nat => isCut p l ⟨up, (i : Int)⟩).map (fun i : Nat => (⟨up, (i : Int)⟩ : Cut)) = lineCuts up p l := by
    intro up
    unfold lineCuts
    rw [show List.range' 0 13 = List.range' 0 12 ++ [12] from rfl, List.filter_append, List.map_append]
    rw [List.filter_cons, isCut_12 hs]
    simp
  have h8 : ∀ (s : List Cut), s.length ≤ 100 → f46_c7 l p N s = some (s ++ lineCuts false p l) := by
    intro s hsl
    have := loopN (F := fun n (s : List Cut) j => f46_8 l p N f46_c12 n s j) (g := fun i (s : List Cut) c => bif isCut p l ⟨false, (i : Int)⟩ then (app 16 s [⟨false, (i : Int)⟩]).bind c else c s) (k := f46_c12) 0 13 (by omega)
      (fun n s i _ hi => by
        simp only [f46_8, f46_8b, decide_eq_true (show (i : Int) ≤ 12 by omega), cond_true, f63_eq (c := ⟨false, (i : Int)⟩) hs hf hl hN, Option.bind_some, W_nat (show i < 9223372036854775807 by omega)])
      (fun n s => rfl) N s (by omega)
    refine this.trans ?_
    rw [forK_filter _ _ _ (by omega), h13]
    rfl
  show f46_3 l p N (f46_c7 l p N) N [] (0 : Int) = _
  have := loopN (F := fun n (s : List Cut) j => f46_3 l p N (f46_c7 l p N) n s j) (g := fun i (s : List Cut) c => bif isCut p l ⟨true, (i : Int)⟩ then (app 16 s [⟨true, (i : Int)⟩]).bind c else c s) (k := f46_c7 l p N) 0 13 (by omega)
    (fun n s i _ hi => by
      simp only [f46_3, f46_3b, decide_eq_true (show (i : Int) ≤ 12 by omega), cond_true, f63_eq (c := ⟨true, (i : Int)⟩) hs hf hl hN, Option.bind_some, W_nat (show i < 9223372036854775807 by omega)])
    (fun n s => rfl) N [] (by omega)
  refine this.trans ?_
  rw [forK_filter _ _ _ (by simp), h13, h8 _ (by
    have : (lineCuts true p l).length ≤ 12 := by
      unfold lineCuts; rw [List.length_map]; exact Nat.le_trans (List.length_filter_le _ _) (by simp)
    simpa using Nat.le_trans this (by omega))]
  rfl

/-! Valid layouts. -/
def sheetOf (L : Layout) : Label := ⟨0, 0, L.W, L.H⟩
structure Valid (L : Layout) : Prop where
  small : Small (sheetOf L)
  w : 1 ≤ L.W
  h : 1 ≤ L.H
  len : L.Labels.length ≤ 10
  fits : ∀ x, x ∈ L.Labels → Fits (sheetOf L) x
  clash : clashes [] L.Labels = false
theorem okLabel_fits {L : Layout} {x : Label} (hw : 1 ≤ L.W ∧ L.W ≤ 12) (hh : 1 ≤ L.H ∧ L.H ≤ 12) (h : okLabel L x = none) : Fits (sheetOf L) x := by
  unfold okLabel at h
  split at h; · cases h
  split at h; · cases h
  split at h; · cases h
  split at h; · cases h
  rename_i h1 h2 h3 h4
  rw [W_in (by omega) (by omega), W_in (by omega) (by omega)] at h
  split at h; · cases h
  split at h; · cases h
  rename_i h5 h6
  exact ⟨by omega, by omega, by simp only [sheetOf]; omega, by simp only [sheetOf]; omega, by simp only [sheetOf]; omega, by simp only [sheetOf]; omega⟩
theorem valid_of {L : Layout} (h : checkS L = 0) : Valid L := by
  unfold checkS at h
  split at h; · cases h
  split at h; · cases h
  split at h; · cases h
  rename_i h1 h2 h3
  have hw : 1 ≤ L.W ∧ L.W ≤ 12 := Classical.not_not.1 h1
  have hh : 1 ≤ L.H ∧ L.H ≤ 12 := Classical.not_not.1 h2
  cases hfs : L.Labels.findSome? (okLabel L) with
  | some e =>
    rw [hfs] at h
    exfalso
    obtain ⟨x, hx, he⟩ := List.exists_of_findSome?_eq_some hfs
    simp only [Option.getD_some] at h
    subst h
    unfold okLabel at he
    repeat' (split at he)
    all_goals cases he
  | none =>
    rw [hfs] at h
    have hall := List.findSome?_eq_none_iff.1 hfs
    refine ⟨⟨by simp [sheetOf], by simp [sheetOf], by simp only [sheetOf]; omega, by simp only [sheetOf]; omega, by simp only [sheetOf]; omega, by simp only [sheetOf]; omega⟩, hw.1, hh.1, by omega, fun x hx => okLabel_fits hw hh (hall x hx), ?_⟩
    cases hc : clashes [] L.Labels with
    | false => rfl
    | true => rw [hc] at h; cases h
def cutsS (L : Layout) : List Cut × Int := if checkS L = 0 then (cutsL (sheetOf L) L.Labels, 0) else ([], checkS L)
theorem f15_eq {N : Nat} {L : Layout} (h : L.Labels.length ≤ 30) (hN : 30 < N) : f15 N L = some (cutsS L) := by
  unfold f15 cutsS
  simp only [f20_eq h hN, Option.bind_some]
  by_cases c : checkS L = 0
  · have hv := valid_of c
    simp only [c, not_true_eq_false, decide_false, cond_false, if_true, f44, Option.bind_some]
    have := f45_eq (p := sheetOf L) hv.small hv.fits h hN
    simp only [sheetOf] at this ⊢
    rw [this]; rfl
  · simp [c]
theorem f16_eq {N : Nat} {L : Layout} (h : L.Labels.length ≤ 30) (hN : 30 < N) : f16 N L = some (cutsS L) := by
  unfold f16 cutsS
  simp only [f21_eq h hN, Option.bind_some]
  by_cases c : checkS L = 0
  · have hv := valid_of c
    simp only [c, not_true_eq_false, decide_false, cond_false, if_true, f47, Option.bind_some]
    have := f46_eq (p := sheetOf L) hv.small hv.fits h hN
    simp only [sheetOf] at this ⊢
    rw [this]; rfl
  · simp [c]

theorem fold_skip {α ρ : Type} {k : Option ρ} : ∀ (l : List α) (i : Nat), foldK (fun _ (x : α) (_ : Unit) c => c ()) (fun _ => k) i l () = k
  | [], _ => rfl
  | x :: r, i => by simp only [foldK]; exact fold_skip r (i + 1)
theorem f3_true (a : Layout) (ks : List Kind) (hw : f13 40 = some true) : f3 40 a ks = some true := by
  unfold f3
  by_cases c1 : 30 < (a.Labels.length : Int)
  · simp [c1, hw]
  by_cases c2 : 30 < (ks.length : Int)
  · simp [c1, c2, hw]
  have h1 : a.Labels.length ≤ 30 := by omega
  have h2 : ks.length ≤ 30 := by omega
  simp only [c1, c2, decide_false, cond_false, f14_eq (N := 40) h1 (by omega), f19_eq (N := 40) h2 (by omega), f15_eq h1 (show 30 < 40 by omega), f16_eq h1 (show 30 < 40 by omega), f17_eq h1 h2 (show 30 < 40 by omega), f18_eq h1 h2 (show 30 < 40 by omega), Option.bind_some, not_true_eq_false, joinK]
  have hlen : (cutsS a).1.length ≤ 24 := by
    unfold cutsS
    split
    · have : ∀ up, (lineCuts up (sheetOf a) a.Labels).length ≤ 12 := by
        intro up; unfold lineCuts; rw [List.length_map]; exact Nat.le_trans (List.length_filter_le _ _) (by simp)
      simp only [cutsL, List.length_append]
      have h1 := this true; have h2 := this false; omega
    · simp
  have := loopL (l := (cutsS a).1) (F := fun n (_ : Unit) j => f3_11 a a (cutsS a) (cutsS a) (f3_c15 a 40 a) n j) (g := fun _ x (_ : Unit) c => c ()) (k := fun _ => f3_c15 a 40 a)
    (fun n s j x hx => by
      have hi := (List.getElem?_eq_some_iff.1 hx).1
      simp only [f3_11, f3_11b, ix_nat, hx, Option.bind_some, decide_eq_true (show (j : Int) < ((cutsS a).1.length : Int) by omega), cond_true, W_nat (show j < 9223372036854775807 by omega), beq_self_eq_true, decide_true, Bool.and_self, Bool.not_true, cond_false])
    (fun n s => by simp [f3_11, f3_11b]) 40 () (by omega)
  refine this.trans ?_
  rw [fold_skip]
  unfold f3_c15
  simp [f20_eq h1 (show 30 < 40 by omega), f21_eq h1 (show 30 < 40 by omega), hw]
end Go.Vc
namespace Go.Vc
open Go.Proofs
set_option linter.unusedVariables false
set_option linter.unnecessarySimpa false
set_option linter.unusedSimpArgs false
def f59b (self : (List Label) → Label → Option (Bool)) (N : Nat) (a0 : List Label) (a1 : Label) : Option (Bool) :=
 bif decide ((List.length a0 : Int) < (2 : Int)) then (some (true))
 else ((f46 N a0 a1).bind fun x1 =>
 bif decide ((List.length x1 : Int) = (0 : Int)) then (some (false))
 else ((ix x1 (0 : Int)).bind fun x2 =>
 (f64 N a1 x2).bind fun x3 =>
 (f62 N a0 x3.1).bind fun x4 =>
 (self x4 x3.1).bind fun x5 =>
 bif x5 then ((f62 N a0 x3.2.1).bind fun x6 =>
 (self x6 x3.2.1).bind fun x7 =>
 some (x7))
 else (some (false))))
def f59 : Nat → (List Label) → Label → Option (Bool)
  | 0, _, _ => none
  | N + 1, a0, a1 => f59b (f59 N) N a0 a1
end Go.Vc
namespace Go.Vc
open Go.Proofs
set_option linter.unusedVariables false
set_option linter.unnecessarySimpa false
set_option linter.unusedSimpArgs false
def f23 (N : Nat) (a0 : Layout) : Option (Int) :=
 (f21 N a0).bind fun x1 =>
 bif decide (x1 = (0 : Int)) then ((f47 N a0).bind fun x2 =>
 (f59 N a0.Labels x2).bind fun x3 =>
 bif !x3 then (some ((14 : Int)))
 else (some (x1)))
 else (some (x1))
end Go.Vc
namespace Go.Vc
open Go.Proofs
set_option linter.unusedVariables false
set_option linter.unnecessarySimpa false
set_option linter.unusedSimpArgs false
def f26_c18 (a1 : List Cut) (v7 : Int) : Option (Int) :=
 bif decide (v7 < (List.length a1 : Int)) then (some ((21 : Int)))
 else (some ((0 : Int)))
def f26_6b (r6 : (List Label) → Int → Option (Int)) (a0 : Layout) (a1 : List Cut) (N : Nat) (k0 : Int → Option (Int)) (v6 : List Label) (v7 : Int) : Option (Int) :=
 bif decide ((0 : Int) < (List.length v6 : Int)) then ((ix v6 (W ((List.length v6 : Int) - (1 : Int)))).bind fun x3 =>
 (sub v6 0 (W ((List.length v6 : Int) - (1 : Int)))).bind fun x4 =>
 (f62 N a0.Labels x3).bind fun x5 =>
 bif decide ((List.length x5 : Int) < (2 : Int)) then (r6 x4 v7)
 else (bif decide (v7 = (List.length a1 : Int)) then (some ((22 : Int)))
 else ((ix a1 v7).bind fun x6 =>
 (f63 N x5 x3 x6).bind fun x7 =>
 bif !x7 then (some ((13 : Int)))
 else ((ix a1 v7).bind fun x8 =>
 (f64 N x3 x8).bind fun x9 =>
 (app 32 x4 [x9.2.1, x9.1]).bind fun x10 =>
 r6 x10 (W (v7 + (1 : Int)))))))
 else (k0 v7)
def f26_6 (a0 : Layout) (a1 : List Cut) (N : Nat) (k0 : Int → Option (Int)) : Nat → (List Label) → Int → Option (Int)
  | 0, _, _ => none
  | n + 1, v6, v7 => f26_6b (f26_6 a0 a1 N k0 n) a0 a1 N k0 v6 v7
def f26 (N : Nat) (a0 : Layout) (a1 : List Cut) : Option (Int) :=
 (f21 N a0).bind fun x1 =>
 bif decide (¬ x1 = (0 : Int)) then (some (x1))
 else ((f47 N a0).bind fun x2 =>
 joinK (f26_c18 a1) fun k0 =>
 f26_6 a0 a1 N k0 N [x2] (0 : Int))
end Go.Vc
namespace Go.Vc
open Go.Proofs
set_option linter.unusedVariables false
set_option linter.unnecessarySimpa false
set_option linter.unusedSimpArgs false
def f65_c10 : Option (Bool) :=
 some (false)
def f65_5b (r5 : Int → Option (Bool)) (a0 : List Label) (a1 : Label) (a2 : Label) (N : Nat) (self : (List Label) → Label → Label → Option (Bool)) (x1 : List Cut) (k0 : Option (Bool)) (i8 : Int) : Option (Bool) :=
 bif decide (i8 < (List.length x1 : Int)) then ((ix x1 i8).bind fun x2 =>
 (f64 N a1 x2).bind fun x3 =>
 (f62 N a0 x3.1).bind fun x4 =>
 (self x4 x3.1 a2).bind fun x5 =>
 bif x5 then (some (true))
 else ((f62 N a0 x3.2.1).bind fun x6 =>
 (self x6 x3.2.1 a2).bind fun x7 =>
 bif x7 then (some (true))
 else (r5 (W (i8 + (1 : Int))))))
 else k0
def f65_5 (a0 : List Label) (a1 : Label) (a2 : Label) (N : Nat) (self : (List Label) → Label → Label → Option (Bool)) (x1 : List Cut) (k0 : Option (Bool)) : Nat → Int → Option (Bool)
  | 0, _ => none
  | n + 1, i8 => f65_5b (f65_5 a0 a1 a2 N self x1 k0 n) a0 a1 a2 N self x1 k0 i8
def f65b (self : (List Label) → Label → Label → Option (Bool)) (N : Nat) (a0 : List Label) (a1 : Label) (a2 : Label) : Option (Bool) :=
 bif (decide (a1.X = a2.X) && (decide (a1.Y = a2.Y) && (decide (a1.W = a2.W) && (decide (a1.H = a2.H) && true)))) then (some (true))
 else ((f46 N a0 a1).bind fun x1 =>
 joinK f65_c10 fun k0 =>
 f65_5 a0 a1 a2 N self x1 k0 N (0 : Int))
def f65 : Nat → (List Label) → Label → Label → Option (Bool)
  | 0, _, _, _ => none
  | N + 1, a0, a1, a2 => f65b (f65 N) N a0 a1 a2
end Go.Vc
namespace Go.Vc
open Go.Proofs
set_option linter.unusedVariables false
set_option linter.unnecessarySimpa false
set_option linter.unusedSimpArgs false
def f28 (N : Nat) (a0 : Layout) (a1 : Label) : Option (Bool) :=
 (f62 N a0.Labels a1).bind fun x1 =>
 bif decide ((1 : Int) < (List.length x1 : Int)) then ((f46 N x1 a1).bind fun x2 =>
 bif decide ((List.length x2 : Int) = (0 : Int)) then ((f47 N a0).bind fun x3 =>
 (f65 N a0.Labels x3 a1).bind fun x4 =>
 some (x4))
 else (some (false)))
 else (some (false))
end Go.Vc
/-
  PLAIN LAWS OF CUT, 5: plans, as a recursion over pieces.
-/
namespace Go.Vc
set_option linter.unusedVariables false
set_option linter.unnecessarySimpa false
set_option linter.unusedSimpArgs false
set_option linter.unusedSimpArgs false

/-! Pieces of a cut. -/
theorem isCut_parts {p : Label} {l : List Label} {c : Cut} (h : isCut p l c = true) : inner c p = true ∧ (∀ x, x ∈ l → (before c x || behind c x) = true) ∧ (∃ x, x ∈ l ∧ before c x = true) ∧ ∃ x, x ∈ l ∧ before c x = false := by
  unfold isCut at h
  simp only [Bool.and_eq_true] at h
  obtain ⟨h1, h2, h3, h4⟩ := h
  refine ⟨h1, fun x hx => List.all_eq_true.1 h2 x hx, ?_, ?_⟩
  · obtain ⟨x, hx, hb⟩ := List.any_eq_true.1 h3; exact ⟨x, hx, hb⟩
  · obtain ⟨x, hx, hb⟩ := List.any_eq_true.1 h4; exact ⟨x, hx, by simpa using hb⟩
theorem small_half1 {p : Label} {c : Cut} (hs : Small p) (hc : inner c p = true) : Small (half1 p c) := by
  have s1 := hs.x0; have s2 := hs.y0; have s3 := hs.x1; have s4 := hs.y1; have s5 := hs.w; have s6 := hs.h
  obtain ⟨up, a⟩ := c
  unfold inner at hc
  rw [Bool.and_eq_true, decide_eq_true_iff, decide_eq_true_iff] at hc
  cases up with
  | true =>
    have hc : p.X + 1 ≤ a ∧ a ≤ p.X + p.W - 1 := hc
    exact ⟨s1, s2, by show p.X + (a - p.X) ≤ 12; omega, s4, by show 0 ≤ a - p.X; omega, s6⟩
  | false =>
    have hc : p.Y + 1 ≤ a ∧ a ≤ p.Y + p.H - 1 := hc
    exact ⟨s1, s2, s3, by show p.Y + (a - p.Y) ≤ 12; omega, s5, by show 0 ≤ a - p.Y; omega⟩
theorem small_half2 {p : Label} {c : Cut} (hs : Small p) (hc : inner c p = true) : Small (half2 p c) := by
  have s1 := hs.x0; have s2 := hs.y0; have s3 := hs.x1; have s4 := hs.y1; have s5 := hs.w; have s6 := hs.h
  obtain ⟨up, a⟩ := c
  unfold inner at hc
  rw [Bool.and_eq_true, decide_eq_true_iff, decide_eq_true_iff] at hc
  cases up with
  | true =>
    have hc : p.X + 1 ≤ a ∧ a ≤ p.X + p.W - 1 := hc
    exact ⟨by show 0 ≤ a; omega, s2, by show a + (p.X + p.W - a) ≤ 12; omega, s4, by show 0 ≤ p.X + p.W - a; omega, s6⟩
  | false =>
    have hc : p.Y + 1 ≤ a ∧ a ≤ p.Y + p.H - 1 := hc
    exact ⟨s1, by show 0 ≤ a; omega, s3, by show a + (p.Y + p.H - a) ≤ 12; omega, s5, by show 0 ≤ p.Y + p.H - a; omega⟩
theorem fits_half1 {p x : Label} {c : Cut} (hx : Fits p x) (hb : before c x = true) : Fits (half1 p c) x := by
  have t1 := hx.w; have t2 := hx.h; have t3 := hx.x0; have t4 := hx.y0; have t5 := hx.x1; have t6 := hx.y1
  obtain ⟨up, a⟩ := c
  rw [before_iff] at hb
  cases up with
  | true =>
    have hb : x.X + x.W ≤ a := hb
    exact ⟨t1, t2, t3, t4, by show x.X + x.W ≤ p.X + (a - p.X); omega, t6⟩
  | false =>
    have hb : x.Y + x.H ≤ a := hb
    exact ⟨t1, t2, t3, t4, t5, by show x.Y + x.H ≤ p.Y + (a - p.Y); omega⟩
theorem fits_half2 {p x : Label} {c : Cut} (hx : Fits p x) (hb : behind c x = true) : Fits (half2 p c) x := by
  have t1 := hx.w; have t2 := hx.h; have t3 := hx.x0; have t4 := hx.y0; have t5 := hx.x1; have t6 := hx.y1
  obtain ⟨up, a⟩ := c
  rw [behind_iff] at hb
  cases up with
  | true =>
    have hb : a ≤ x.X := hb
    exact ⟨t1, t2, hb, t4, by show x.X + x.W ≤ a + (p.X + p.W - a); omega, t6⟩
  | false =>
    have hb : a ≤ x.Y := hb
    exact ⟨t1, t2, t3, hb, t5, by show x.Y + x.H ≤ a + (p.Y + p.H - a); omega⟩
/-- a piece with its labels -/
structure Pc (p : Label) (l : List Label) : Prop where
  small : Small p
  fits : ∀ x, x ∈ l → Fits p x
theorem Pc.half1 {p : Label} {l : List Label} {c : Cut} (h : Pc p l) (hc : isCut p l c = true) : Pc (half1 p c) (l.filter (before c)) :=
  ⟨small_half1 h.small (isCut_parts hc).1, fun x hx => fits_half1 (h.fits x (List.mem_filter.1 hx).1) (List.mem_filter.1 hx).2⟩
theorem behind_of {p : Label} {l : List Label} {c : Cut} (hc : isCut p l c = true) {x : Label} (hx : x ∈ l) (hb : before c x = false) : behind c x = true := by
  have := (isCut_parts hc).2.1 x hx
  rw [hb] at this; simpa using this
theorem Pc.half2 {p : Label} {l : List Label} {c : Cut} (h : Pc p l) (hc : isCut p l c = true) : Pc (half2 p c) (l.filter fun x => !before c x) :=
  ⟨small_half2 h.small (isCut_parts hc).1, fun x hx => fits_half2 (h.fits x (List.mem_filter.1 hx).1) (behind_of hc (List.mem_filter.1 hx).1 (by simpa using (List.mem_filter.1 hx).2))⟩
theorem Pc.perm {p : Label} {l l' : List Label} (h : Pc p l) (hp : l'.Perm l) : Pc p l' := ⟨h.small, fun x hx => h.fits x (hp.mem_iff.1 hx)⟩
theorem split_len {l : List Label} (f : Label → Bool) : (l.filter f).length + (l.filter fun x => !f x).length = l.length := by
  induction l with
  | nil => rfl
  | cons x r ih => simp only [List.filter_cons]; cases f x <;> simp <;> omega
theorem cut_lens {p : Label} {l : List Label} {c : Cut} (hc : isCut p l c = true) : 1 ≤ (l.filter (before c)).length ∧ 1 ≤ (l.filter fun x => !before c x).length := by
  obtain ⟨_, _, ⟨x, hx, hb⟩, ⟨y, hy, hb'⟩⟩ := isCut_parts hc
  exact ⟨List.length_pos_of_mem (List.mem_filter.2 ⟨hx, hb⟩), List.length_pos_of_mem (List.mem_filter.2 ⟨hy, by rw [hb']; rfl⟩)⟩
theorem mem_cutsL {p : Label} {l : List Label} {c : Cut} (h : c ∈ cutsL p l) : isCut p l c = true := by
  unfold cutsL lineCuts at h
  rw [List.mem_append] at h
  rcases h with h | h <;> (obtain ⟨i, hi, rfl⟩ := List.mem_map.1 h; exact (List.mem_filter.1 hi).2)
theorem cutsL_perm {p : Label} {l l' : List Label} (h : l.Perm l') : cutsL p l = cutsL p l' := by
  unfold cutsL lineCuts
  simp only [isCut_perm h]
theorem cutsL_len {p : Label} {l : List Label} : (cutsL p l).length ≤ 24 := by
  have : ∀ up, (lineCuts up p l).length ≤ 12 := by
    intro up; unfold lineCuts; rw [List.length_map]; exact Nat.le_trans (List.length_filter_le _ _) (by simp)
  simp only [cutsL, List.length_append]
  have h1 := this true; have h2 := this false; omega

/-- the plan: the first cut, then the pieces; and the piece that is blocked -/
def planR : Nat → Label → List Label → List Cut × Option Label
  | 0, _, _ => ([], none)
  | m + 1, p, l => if l.length < 2 then ([], none) else match cutsL p l with
    | [] => ([], some p)
    | c :: _ => match planR m (half1 p c) (l.filter (before c)) with
      | (cs, some q) => (c :: cs, some q)
      | (cs, none) => (c :: (cs ++ (planR m (half2 p c) (l.filter fun x => !before c x)).1), (planR m (half2 p c) (l.filter fun x => !before c x)).2)
theorem planR_perm : ∀ (m : Nat) {p : Label} {l l' : List Label}, l.Perm l' → planR m p l = planR m p l'
  | 0, _, _, _, _ => rfl
  | m + 1, p, l, l', h => by
    simp only [planR, h.length_eq, cutsL_perm h]
    split
    · rfl
    · cases cutsL p l' with
      | nil => rfl
      | cons c r => simp only [planR_perm m (h.filter (before c)), planR_perm m (h.filter fun x => !before c x)]

/-! Stacks. -/
theorem stk {α : Type} {r : List α} {x : α} (h : r.length ≤ 1000) : decide ((0 : Int) < ((r ++ [x]).length : Int)) = true ∧ W (((r ++ [x]).length : Int) - (1 : Int)) = (r.length : Int) ∧ ix (r ++ [x]) (r.length : Int) = some x ∧ sub (r ++ [x]) 0 (r.length : Int) = some r := by
  refine ⟨by simp, ?_, by simp [ix_nat], ?_⟩
  · rw [W_in (by simp only [List.length_append, List.length_singleton]; omega) (by simp only [List.length_append, List.length_singleton]; omega)]
    simp only [List.length_append, List.length_singleton]; omega
  · exact (sub_nat (a := 0) (by omega) (by simp)).trans (by simp)
def blank : Piece := ⟨⟨0, 0, 0, 0⟩, []⟩
theorem f58_stack {N : Nat} {a : Layout} {k0 : List Cut → Option (List Cut × Piece × Bool)} (hN : 30 < N) : ∀ (m : Nat) (p : Label) (l l' : List Label), l'.Perm l → Pc p l → 1 ≤ l.length → l.length ≤ m → l.length ≤ 30 → ∀ (rest : List Piece) (pl : List Cut) (n j : Nat), rest.length + l.length ≤ 100 → pl.length + l.length ≤ 100 →
    2 * l.length - 1 + j ≤ n → (match (planR m p l).2 with
      | none => ∃ n', j ≤ n' ∧ f58_i102_2 a N k0 n (rest ++ [⟨p, l'⟩]) pl = f58_i102_2 a N k0 n' rest (pl ++ (planR m p l).1) ∧ (planR m p l).1.length + 1 = l.length
      | some q => ∃ l2, f58_i102_2 a N k0 n (rest ++ [⟨p, l'⟩]) pl = some (pl ++ (planR m p l).1, ⟨q, l2⟩, false)) := by
  intro m
  induction m with
  | zero => intro p l l' _ _ h1 h2; omega
  | succ m ih =>
    intro p l l' hp hpc h1 hm h30 rest pl n j hr hpl hn
    obtain ⟨n, rfl⟩ : ∃ k, n = k + 1 := ⟨n - 1, by omega⟩
    obtain ⟨e1, e2, e3, e4⟩ := stk (r := rest) (x := (⟨p, l'⟩ : Piece)) (by omega)
    have hlen := hp.length_eq
    simp only [planR]
    by_cases h2 : l.length < 2
    · rw [if_pos h2]
      refine ⟨n, by omega, ?_, by simp only [List.length_nil]; omega⟩
      simp only [f58_i102_2, f58_i102_2b, e1, cond_true, e2, e3, e4, Option.bind_some, decide_eq_true (show (l'.length : Int) < 2 by omega), List.append_nil]
    · rw [if_neg h2]
      have hpc' := hpc.perm hp
      have hcut : f45 N ⟨p, l'⟩ = some (cutsL p l) := by rw [f45_eq hpc'.small hpc'.fits (by omega) hN, cutsL_perm hp]
      cases hcs : cutsL p l with
      | nil =>
        obtain ⟨r, hr1, hr2⟩ := f69_ok (N := N) (p := p) (l := l') (c := ⟨false, 0⟩) hpc'.small hpc'.fits (by omega) hN
        refine ⟨l', ?_⟩
        simp only [f58_i102_2, f58_i102_2b, e1, cond_true, e2, e3, e4, Option.bind_some, decide_eq_false (show ¬ (l'.length : Int) < 2 by omega), cond_false, joinK, hcut, hcs, List.length_nil]
        simp only [Int.ofNat_eq_natCast, Int.natCast_zero, decide_true, cond_true, f58_i102_c7, hr1, Option.bind_some, Bool.not_false, List.append_nil]
      | cons c cr =>
        have hc : isCut p l c = true := mem_cutsL (by rw [hcs]; simp)
        have hc' : isCut p l' c = true := by rw [isCut_perm hp]; exact hc
        obtain ⟨r, hr1, hr2⟩ := f69_ok (N := N) (c := c) hpc'.small hpc'.fits (by omega) hN
        have g1 := hr2.is; have g2 := hr2.l1 hc'; have g3 := hr2.l2 hc'; have g4 := hr2.p1 hc'; have g5 := hr2.p2 hc'
        rw [hc'] at g1
        have q1 := g4.trans (hp.filter (before c))
        have q2 := g5.trans (hp.filter fun x => !before c x)
        have hsplit := split_len (l := l) (before c)
        obtain ⟨w1, w2⟩ := cut_lens hc
        have step : f58_i102_2 a N k0 (n + 1) (rest ++ [⟨p, l'⟩]) pl = f58_i102_2 a N k0 n (rest ++ [r.2.1] ++ [r.1]) (pl ++ [c]) := by
          simp only [f58_i102_2, f58_i102_2b, e1, cond_true, e2, e3, e4, Option.bind_some, decide_eq_false (show ¬ (l'.length : Int) < 2 by omega), cond_false, joinK, hcut, hcs]
          rw [decide_eq_false (show ¬ ((c :: cr).length : Int) = 0 by simp only [List.length_cons]; omega), cond_false]
          rw [show ix (c :: cr) (0 : Int) = some c from rfl]
          simp only [Option.bind_some]
          rw [app_ok (by simp; omega) (by simp; omega)]
          simp only [Option.bind_some, f58_i102_c7, hr1, Bool.not_true, cond_false, g1]
          rw [app_ok (by simp; omega) (by simp; omega)]
          simp only [Option.bind_some, List.append_assoc, List.singleton_append, List.cons_append, List.nil_append]
        have hr1e : r.1 = ⟨half1 p c, r.1.labels⟩ := by rw [← g2]
        have hr2e : r.2.1 = ⟨half2 p c, r.2.1.labels⟩ := by rw [← g3]
        have ih1 := ih (half1 p c) (l.filter (before c)) r.1.labels q1 (hpc.half1 hc) w1 (by omega) (by omega) (rest ++ [r.2.1]) (pl ++ [c]) n (2 * (l.filter fun x => !before c x).length - 1 + j) (by simp; omega) (by simp; omega) (by omega)
        rw [← hr1e] at ih1
        simp only
        cases hA : planR m (half1 p c) (l.filter (before c)) with
        | mk cs1 o1 =>
          rw [hA] at ih1
          cases o1 with
          | some q =>
            simp only at ih1 ⊢
            obtain ⟨l2, ih1⟩ := ih1
            exact ⟨l2, by rw [step, ih1]; simp⟩
          | none =>
            simp only at ih1 ⊢
            obtain ⟨n1, hn1, ih1, hl1⟩ := ih1
            have ih2 := ih (half2 p c) (l.filter fun x => !before c x) r.2.1.labels q2 (hpc.half2 hc) w2 (by omega) (by omega) rest (pl ++ [c] ++ cs1) n1 j (by omega) (by simp; omega) hn1
            rw [← hr2e] at ih2
            cases hB : planR m (half2 p c) (l.filter fun x => !before c x) with
            | mk cs2 o2 =>
              rw [hB] at ih2
              cases o2 with
              | some q =>
                simp only at ih2 ⊢
                obtain ⟨l2, ih2⟩ := ih2
                exact ⟨l2, by rw [step, ih1, ih2]; simp⟩
              | none =>
                simp only at ih2 ⊢
                obtain ⟨n2, hn2, ih2, hl2⟩ := ih2
                exact ⟨n2, hn2, by rw [step, ih1, ih2]; simp, by simp; omega⟩
def planS (L : Layout) : List Cut × Option Label := planR L.Labels.length (sheetOf L) L.Labels
theorem f58_eq {N : Nat} {L : Layout} (hv : Valid L) (hN : 30 < N) : match (planS L).2 with
    | none => f58 N L = some ((planS L).1, blank, true) ∧ (planS L).1.length + 1 = max 1 L.Labels.length
    | some q => ∃ l2, f58 N L = some ((planS L).1, ⟨q, l2⟩, false) := by
  have hlen := hv.len
  have fin : ∀ n pl, f58_i102_2 L N (f58_i102_c11 L) (n + 1) [] pl = some (pl, blank, true) := fun n pl => rfl
  have h0 : f58 N L = f58_i102_2 L N (f58_i102_c11 L) N ([] ++ [⟨sheetOf L, L.Labels⟩]) [] := rfl
  rw [h0]
  by_cases hz : L.Labels.length = 0
  · have hnil : L.Labels = [] := List.length_eq_zero_iff.1 hz
    obtain ⟨n, rfl⟩ : ∃ n, N = n + 2 := ⟨N - 2, by omega⟩
    have : planS L = ([], none) := by unfold planS; rw [hz]; rfl
    rw [this]
    refine ⟨?_, by rw [hz]; rfl⟩
    rw [hnil]; rfl
  · have := f58_stack (a := L) (k0 := f58_i102_c11 L) hN L.Labels.length (sheetOf L) L.Labels L.Labels (.refl _) ⟨hv.small, hv.fits⟩ (by omega) (Nat.le_refl _) (by omega) [] [] N 1 (by simp; omega) (by simp; omega) (by omega)
    revert this
    show (match (planS L).2 with | none => _ | some q => _) → _
    cases hq : (planS L).2 with
    | none =>
      rintro ⟨n', hn', h1, h2⟩
      obtain ⟨n', rfl⟩ : ∃ k, n' = k + 1 := ⟨n' - 1, by omega⟩
      refine ⟨?_, by show (planR _ _ _).1.length + 1 = _; omega⟩
      rw [h1, fin]; rfl
    | some q =>
      rintro ⟨l2, h1⟩
      exact ⟨l2, by rw [h1]; rfl⟩
end Go.Vc
namespace Go.Vc
open Go.Proofs
set_option linter.unusedVariables false
set_option linter.unnecessarySimpa false
set_option linter.unusedSimpArgs false
def f27_c6 (out3 : List Cut) : Option ((List Cut)) :=
 some (out3)
def f27_3b (r3 : (List Cut) → Int → Option ((List Cut))) (a0 : List Cut) (k0 : (List Cut) → Option ((List Cut))) (out3 : List Cut) (i4 : Int) : Option ((List Cut)) :=
 bif decide (i4 < (List.length a0 : Int)) then ((ix a0 i4).bind fun x1 =>
 (app 16 out3 [x1]).bind fun x2 =>
 r3 x2 (W (i4 + (1 : Int))))
 else (k0 out3)
def f27_3 (a0 : List Cut) (k0 : (List Cut) → Option ((List Cut))) : Nat → (List Cut) → Int → Option ((List Cut))
  | 0, _, _ => none
  | n + 1, out3, i4 => f27_3b (f27_3 a0 k0 n) a0 k0 out3 i4
def f27 (N : Nat) (a0 : List Cut) : Option ((List Cut)) :=
 joinK f27_c6 fun k0 =>
 f27_3 a0 k0 N [] (0 : Int)
end Go.Vc
namespace Go.Vc
open Go.Proofs
set_option linter.unusedVariables false
set_option linter.unnecessarySimpa false
set_option linter.unusedSimpArgs false
def f4 (N : Nat) (a0 : Layout) (a1 : List Cut) : Option (Bool) :=
 bif decide ((30 : Int) < (List.length a0.Labels : Int)) then ((f13 N ).bind fun x1 =>
 some (x1))
 else (bif decide ((30 : Int) < (List.length a1 : Int)) then ((f13 N ).bind fun x2 =>
 some (x2))
 else ((f14 N a0).bind fun x3 =>
 (f22 N a0).bind fun x4 =>
 (f23 N x3).bind fun x5 =>
 (f24 N a0).bind fun x6 =>
 bif decide (¬ x4.2 = x5) then (some (false))
 else ((f25 N a0 a1).bind fun x7 =>
 (f27 N a1).bind fun x8 =>
 (f26 N x3 x8).bind fun x9 =>
 bif decide (¬ x7 = x9) then (some (false))
 else (bif decide (x5 = (0 : Int)) then (bif decide (x6.2 = (14 : Int)) then (bif (decide (x6.1.X = (0 : Int)) && (decide (x6.1.Y = (0 : Int)) && (decide (x6.1.W = (0 : Int)) && (decide (x6.1.H = (0 : Int)) && true)))) then ((f27 N x4.1).bind fun x10 =>
 (f26 N x3 x10).bind fun x11 =>
 bif decide (x11 = (0 : Int)) then ((f13 N ).bind fun x12 =>
 some (x12))
 else (some (false)))
 else (some (false)))
 else (some (false)))
 else (bif decide ((0 : Int) < (List.length x4.1 : Int)) then (some (false))
 else (bif decide (x5 = (14 : Int)) then (bif decide (x6.2 = (0 : Int)) then ((f28 N x3 x6.1).bind fun x13 =>
 bif x13 then ((f13 N ).bind fun x14 =>
 some (x14))
 else (some (false)))
 else (some (false)))
 else (bif decide (x6.2 = x5) then (bif (decide (x6.1.X = (0 : Int)) && (decide (x6.1.Y = (0 : Int)) && (decide (x6.1.W = (0 : Int)) && (decide (x6.1.H = (0 : Int)) && true)))) then ((f13 N ).bind fun x15 =>
 some (x15))
 else (some (false)))
 else (some (false)))))))))
end Go.Vc

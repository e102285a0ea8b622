/-
  A library for proofs about Go functions by symbolic evaluation, and plain Lean functions that the walked Go functions compute (written by a program of this claim).
-/
import Derived.Test.YtikifojhjbcfhaaKnownF1
import Derived.Test.YtikifojhjbcfhaaKnownF2
namespace Go.Vc
open Go.Proofs
set_option linter.unusedVariables false
set_option linter.unnecessarySimpa false
set_option linter.unusedSimpArgs false
section
variable {c : Ctx} {p nid : Nat} {a b : Code} {st : St} {K : Ex → St → Prop}
/- f95: slices.pdqsortCmpFunc[tusche/serial.Spot] -/
def f95_c20 (N : Nat) (self : Int → Int → Int → (List Spot) → Option ((List Spot))) (v1 : Int) (v2 : Int) (r2 : Int → Int → Int → Bool → Bool → (List Spot) → Option ((List Spot))) (v3' : Int) (v13 : Int) (b0''' : List Spot) : Option ((List Spot)) :=
 (f105 N v1 v2 v13 (b0''')).bind fun x6 =>
 (keepL (b0''') x6.2.2).bind fun x7 =>
 bif decide ((W (x6.1 - v1)) < (W (v2 - x6.1))) then ((self v1 x6.1 (v3') x7).bind fun x8 =>
 (keepL x7 x8).bind fun x9 =>
 r2 (W (x6.1 + (1 : Int))) v2 (v3') (decide ((W (Int.tdiv (W (v2 - v1)) (8 : Int))) ≤ (W (x6.1 - v1)))) x6.2.1 x9)
 else ((self (W (x6.1 + (1 : Int))) v2 (v3') x7).bind fun x10 =>
 (keepL x7 x10).bind fun x11 =>
 r2 v1 x6.1 (v3') (decide ((W (Int.tdiv (W (v2 - v1)) (8 : Int))) ≤ (W (v2 - x6.1)))) x6.2.1 x11)
def Sf95_c20 : Ann := ⟨[0, 1, 2, 3, 4, 12, 13], [0], [], []⟩
def Vf95_c20 (v1 : Int) (v2 : Int) (v3' : Int) (v13 : Int) (b0''' : List Spot) : List SV := [.rs 0 (List.length (b0''')), .dat (iN v1), .dat (iN v2), .dat (iN (v3')), .dat (.v (.func (.func 91) #[] #[])), .dat (iN (W (v2 - v1))), .dat (iN v13)]
def Bf95_c20 (v1 : Int) (v2 : Int) (v3' : Int) (v13 : Int) (b0''' : List Spot) : List Blk := [.row 73 3 (List.map Spot.d (b0'''))]
def Yf95_c20 (v1 : Int) (v2 : Int) (v3' : Int) (v13 : Int) (b0''' : List Spot) (y : Unit) : List SV := Vf95_c20 v1 v2 v3' v13 b0'''
def Xf95_c20 (v1 : Int) (v2 : Int) (v3' : Int) (v13 : Int) (b0''' : List Spot) (y : Unit) : List Blk := Bf95_c20 v1 v2 v3' v13 b0'''
def Jf95_c20 (N : Nat) (self : Int → Int → Int → (List Spot) → Option ((List Spot))) (v1 : Int) (v2 : Int) (r2 : Int → Int → Int → Bool → Bool → (List Spot) → Option ((List Spot))) (v3' : Int) (v13 : Int) (b0''' : List Spot) (r : (List Spot)) (y : Unit) : Prop := f95_c20 N self v1 v2 r2 v3' v13 b0''' = some r
def V2f95_c20 (v1 : Int) (v2 : Int) (v3' : Int) (v13 : Int) (b0''' : List Spot) (m0 : Nat) : List SV := [.rs 0 m0, .dat (iN v1), .dat (iN v2), .dat (iN (v3')), .dat (.v (.func (.func 91) #[] #[])), .dat (iN (W (v2 - v1))), .dat (iN v13)]
def B2f95_c20 (v1 : Int) (v2 : Int) (v3' : Int) (v13 : Int) (b0''' : List Spot) (m0 : Nat) : List Blk := [.row 73 3 (List.map Spot.d (b0'''))]
theorem Cf95_c20 {r : (List Spot)} {N : Nat} {self : Int → Int → Int → (List Spot) → Option ((List Spot))} {v1 : Int} {v2 : Int} {r2 : Int → Int → Int → Bool → Bool → (List Spot) → Option ((List Spot))} {v3' : Int} {v13 : Int} {b0''' : List Spot} {g : _ → Option ((List Spot))} (hn : Nat.beq (nid * 1000 + firstRegion b) 1000020 = true) (hz : Sf95_c20.ok p = true) (h : g (f95_c20 N self v1 v2 r2 v3' v13 b0''') = some r → vc c p nid a st (KHead Sf95_c20 (Yf95_c20 v1 v2 v3' v13 b0''') (Xf95_c20 v1 v2 v3' v13 b0''') (Jf95_c20 N self v1 v2 r2 v3' v13 b0''' r) K)) (h2 : ∀ (_ : Unit), f95_c20 N self v1 v2 r2 v3' v13 b0''' = some r → vc c p nid b (St.mk' Sf95_c20 (Vf95_c20 v1 v2 v3' v13 b0''') (Bf95_c20 v1 v2 v3' v13 b0''')) K) (hF : joinK (f95_c20 N self v1 v2 r2 v3' v13 b0''') g = some r) : vc c p nid (.seq a b) st K :=
  vc_cut Sf95_c20 (Yf95_c20 v1 v2 v3' v13 b0''') (Xf95_c20 v1 v2 v3' v13 b0''') (Jf95_c20 N self v1 v2 r2 v3' v13 b0''' r) hz (h hF) fun y hy => h2 () hy
theorem Zf95_c20 {r : (List Spot)} {N : Nat} {self : Int → Int → Int → (List Spot) → Option ((List Spot))} {v1 : Int} {v2 : Int} {r2 : Int → Int → Int → Bool → Bool → (List Spot) → Option ((List Spot))} {v3' : Int} {v13 : Int} {b0''' : List Spot} {m0 : Nat} (hF : f95_c20 N self v1 v2 r2 v3' v13 b0''' = some r) (h0 : AtH Sf95_c20 st (V2f95_c20 v1 v2 v3' v13 b0''' m0) (B2f95_c20 v1 v2 v3' v13 b0''' m0)) (em0 : m0 = List.length (b0''')) : KHead Sf95_c20 (Yf95_c20 v1 v2 v3' v13 b0''') (Xf95_c20 v1 v2 v3' v13 b0''') (Jf95_c20 N self v1 v2 r2 v3' v13 b0''' r) K .normal st := by
  subst em0; exact khead (I := (Jf95_c20 N self v1 v2 r2 v3' v13 b0''' r)) (x := ()) hF h0
def f95_c17 (N : Nat) (self : Int → Int → Int → (List Spot) → Option ((List Spot))) (v1 : Int) (v2 : Int) (v10 : Bool) (v11 : Bool) (r2 : Int → Int → Int → Bool → Bool → (List Spot) → Option ((List Spot))) (v3' : Int) (v13 : Int) (b0''' : List Spot) : Option ((List Spot)) :=
 joinK (f95_c20 N self v1 v2 r2 v3' v13 b0''') fun k0 =>
 bif decide ((0 : Int) < v1) then ((ix (b0''') (W (v1 - (1 : Int)))).bind fun x12 =>
 (ix (b0''') v13).bind fun x13 =>
 (f91 N x12 x13).bind fun x14 =>
 bif !(decide (x14 < (0 : Int))) then ((f104 N v1 v2 v13 (b0''')).bind fun x15 =>
 (keepL (b0''') x15.2).bind fun x16 =>
 r2 x15.1 v2 (v3') v10 v11 x16)
 else k0)
 else k0
def Sf95_c17 : Ann := ⟨[0, 1, 2, 3, 4, 10, 11, 12, 13], [0], [], []⟩
def Vf95_c17 (v1 : Int) (v2 : Int) (v10 : Bool) (v11 : Bool) (v3' : Int) (v13 : Int) (b0''' : List Spot) : List SV := [.rs 0 (List.length (b0''')), .dat (iN v1), .dat (iN v2), .dat (iN (v3')), .dat (.v (.func (.func 91) #[] #[])), .kb v10, .kb v11, .dat (iN (W (v2 - v1))), .dat (iN v13)]
def Bf95_c17 (v1 : Int) (v2 : Int) (v10 : Bool) (v11 : Bool) (v3' : Int) (v13 : Int) (b0''' : List Spot) : List Blk := [.row 73 3 (List.map Spot.d (b0'''))]
def Yf95_c17 (v1 : Int) (v2 : Int) (v10 : Bool) (v11 : Bool) (v3' : Int) (v13 : Int) (y : (List Spot)) : List SV := Vf95_c17 v1 v2 v10 v11 v3' v13 y
def Xf95_c17 (v1 : Int) (v2 : Int) (v10 : Bool) (v11 : Bool) (v3' : Int) (v13 : Int) (y : (List Spot)) : List Blk := Bf95_c17 v1 v2 v10 v11 v3' v13 y
def Jf95_c17 (N : Nat) (self : Int → Int → Int → (List Spot) → Option ((List Spot))) (v1 : Int) (v2 : Int) (v10 : Bool) (v11 : Bool) (r2 : Int → Int → Int → Bool → Bool → (List Spot) → Option ((List Spot))) (v3' : Int) (v13 : Int) (r : (List Spot)) (y : (List Spot)) : Prop := f95_c17 N self v1 v2 v10 v11 r2 v3' v13 y = some r
def V2f95_c17 (v1 : Int) (v2 : Int) (v10 : Bool) (v11 : Bool) (v3' : Int) (v13 : Int) (b0''' : List Spot) (m0 : Nat) : List SV := [.rs 0 m0, .dat (iN v1), .dat (iN v2), .dat (iN (v3')), .dat (.v (.func (.func 91) #[] #[])), .kb v10, .kb v11, .dat (iN (W (v2 - v1))), .dat (iN v13)]
def B2f95_c17 (v1 : Int) (v2 : Int) (v10 : Bool) (v11 : Bool) (v3' : Int) (v13 : Int) (b0''' : List Spot) (m0 : Nat) : List Blk := [.row 73 3 (List.map Spot.d (b0'''))]
theorem Cf95_c17 {r : (List Spot)} {N : Nat} {self : Int → Int → Int → (List Spot) → Option ((List Spot))} {v1 : Int} {v2 : Int} {v10 : Bool} {v11 : Bool} {r2 : Int → Int → Int → Bool → Bool → (List Spot) → Option ((List Spot))} {v3' : Int} {v13 : Int} {g : _ → Option ((List Spot))} (hn : Nat.beq (nid * 1000 + firstRegion b) 1000017 = true) (hz : Sf95_c17.ok p = true) (h : g (f95_c17 N self v1 v2 v10 v11 r2 v3' v13) = some r → vc c p nid a st (KHead Sf95_c17 (Yf95_c17 v1 v2 v10 v11 v3' v13) (Xf95_c17 v1 v2 v10 v11 v3' v13) (Jf95_c17 N self v1 v2 v10 v11 r2 v3' v13 r) K)) (h2 : ∀ (b0''' : List Spot), f95_c17 N self v1 v2 v10 v11 r2 v3' v13 b0''' = some r → vc c p nid b (St.mk' Sf95_c17 (Vf95_c17 v1 v2 v10 v11 v3' v13 b0''') (Bf95_c17 v1 v2 v10 v11 v3' v13 b0''')) K) (hF : joinK (f95_c17 N self v1 v2 v10 v11 r2 v3' v13) g = some r) : vc c p nid (.seq a b) st K :=
  vc_cut Sf95_c17 (Yf95_c17 v1 v2 v10 v11 v3' v13) (Xf95_c17 v1 v2 v10 v11 v3' v13) (Jf95_c17 N self v1 v2 v10 v11 r2 v3' v13 r) hz (h hF) fun y hy => h2 y hy
theorem Zf95_c17 {r : (List Spot)} {N : Nat} {self : Int → Int → Int → (List Spot) → Option ((List Spot))} {v1 : Int} {v2 : Int} {v10 : Bool} {v11 : Bool} {r2 : Int → Int → Int → Bool → Bool → (List Spot) → Option ((List Spot))} {v3' : Int} {v13 : Int} {b0''' : List Spot} {m0 : Nat} (hF : f95_c17 N self v1 v2 v10 v11 r2 v3' v13 b0''' = some r) (h0 : AtH Sf95_c17 st (V2f95_c17 v1 v2 v10 v11 v3' v13 b0''' m0) (B2f95_c17 v1 v2 v10 v11 v3' v13 b0''' m0)) (em0 : m0 = List.length (b0''')) : KHead Sf95_c17 (Yf95_c17 v1 v2 v10 v11 v3' v13) (Xf95_c17 v1 v2 v10 v11 v3' v13) (Jf95_c17 N self v1 v2 v10 v11 r2 v3' v13 r) K .normal st := by
  subst em0; exact khead (I := (Jf95_c17 N self v1 v2 v10 v11 r2 v3' v13 r)) (x := (b0''')) hF h0
def f95_c15 (N : Nat) (self : Int → Int → Int → (List Spot) → Option ((List Spot))) (v1 : Int) (v2 : Int) (v10 : Bool) (v11 : Bool) (r2 : Int → Int → Int → Bool → Bool → (List Spot) → Option ((List Spot))) (v3' : Int) (v13 : Int) (v14 : Int) (b0'' : List Spot) : Option ((List Spot)) :=
 joinK (f95_c17 N self v1 v2 v10 v11 r2 v3' v13) fun k1 =>
 bif v10 then (bif v11 then (bif decide (v14 = (1 : Int)) then ((f103 N v1 v2 (b0'')).bind fun x17 =>
 (keepL (b0'') x17.2).bind fun x18 =>
 bif x17.1 then (some (x18))
 else (k1 x18))
 else (k1 (b0'')))
 else (k1 (b0'')))
 else (k1 (b0''))
def Sf95_c15 : Ann := ⟨[0, 1, 2, 3, 4, 10, 11, 12, 13, 14], [0], [], []⟩
def Vf95_c15 (v1 : Int) (v2 : Int) (v10 : Bool) (v11 : Bool) (v3' : Int) (v13 : Int) (v14 : Int) (b0'' : List Spot) : List SV := [.rs 0 (List.length (b0'')), .dat (iN v1), .dat (iN v2), .dat (iN (v3')), .dat (.v (.func (.func 91) #[] #[])), .kb v10, .kb v11, .dat (iN (W (v2 - v1))), .dat (iN v13), .dat (iN v14)]
def Bf95_c15 (v1 : Int) (v2 : Int) (v10 : Bool) (v11 : Bool) (v3' : Int) (v13 : Int) (v14 : Int) (b0'' : List Spot) : List Blk := [.row 73 3 (List.map Spot.d (b0''))]
def Yf95_c15 (v1 : Int) (v2 : Int) (v10 : Bool) (v11 : Bool) (v3' : Int) (y : Int × Int × (List Spot)) : List SV := Vf95_c15 v1 v2 v10 v11 v3' y.1 y.2.1 y.2.2
def Xf95_c15 (v1 : Int) (v2 : Int) (v10 : Bool) (v11 : Bool) (v3' : Int) (y : Int × Int × (List Spot)) : List Blk := Bf95_c15 v1 v2 v10 v11 v3' y.1 y.2.1 y.2.2
def Jf95_c15 (N : Nat) (self : Int → Int → Int → (List Spot) → Option ((List Spot))) (v1 : Int) (v2 : Int) (v10 : Bool) (v11 : Bool) (r2 : Int → Int → Int → Bool → Bool → (List Spot) → Option ((List Spot))) (v3' : Int) (r : (List Spot)) (y : Int × Int × (List Spot)) : Prop := f95_c15 N self v1 v2 v10 v11 r2 v3' y.1 y.2.1 y.2.2 = some r
def V2f95_c15 (v1 : Int) (v2 : Int) (v10 : Bool) (v11 : Bool) (v3' : Int) (v13 : Int) (v14 : Int) (b0'' : List Spot) (m0 : Nat) : List SV := [.rs 0 m0, .dat (iN v1), .dat (iN v2), .dat (iN (v3')), .dat (.v (.func (.func 91) #[] #[])), .kb v10, .kb v11, .dat (iN (W (v2 - v1))), .dat (iN v13), .dat (iN v14)]
def B2f95_c15 (v1 : Int) (v2 : Int) (v10 : Bool) (v11 : Bool) (v3' : Int) (v13 : Int) (v14 : Int) (b0'' : List Spot) (m0 : Nat) : List Blk := [.row 73 3 (List.map Spot.d (b0''))]
theorem Cf95_c15 {r : (List Spot)} {N : Nat} {self : Int → Int → Int → (List Spot) → Option ((List Spot))} {v1 : Int} {v2 : Int} {v10 : Bool} {v11 : Bool} {r2 : Int → Int → Int → Bool → Bool → (List Spot) → Option ((List Spot))} {v3' : Int} {g : _ → Option ((List Spot))} (hn : Nat.beq (nid * 1000 + firstRegion b) 1000015 = true) (hz : Sf95_c15.ok p = true) (h : g (f95_c15 N self v1 v2 v10 v11 r2 v3') = some r → vc c p nid a st (KHead Sf95_c15 (Yf95_c15 v1 v2 v10 v11 v3') (Xf95_c15 v1 v2 v10 v11 v3') (Jf95_c15 N self v1 v2 v10 v11 r2 v3' r) K)) (h2 : ∀ (v13 : Int) (v14 : Int) (b0'' : List Spot), f95_c15 N self v1 v2 v10 v11 r2 v3' v13 v14 b0'' = some r → vc c p nid b (St.mk' Sf95_c15 (Vf95_c15 v1 v2 v10 v11 v3' v13 v14 b0'') (Bf95_c15 v1 v2 v10 v11 v3' v13 v14 b0'')) K) (hF : joinK (f95_c15 N self v1 v2 v10 v11 r2 v3') g = some r) : vc c p nid (.seq a b) st K :=
  vc_cut Sf95_c15 (Yf95_c15 v1 v2 v10 v11 v3') (Xf95_c15 v1 v2 v10 v11 v3') (Jf95_c15 N self v1 v2 v10 v11 r2 v3' r) hz (h hF) fun y hy => h2 y.1 y.2.1 y.2.2 hy
theorem Zf95_c15 {r : (List Spot)} {N : Nat} {self : Int → Int → Int → (List Spot) → Option ((List Spot))} {v1 : Int} {v2 : Int} {v10 : Bool} {v11 : Bool} {r2 : Int → Int → Int → Bool → Bool → (List Spot) → Option ((List Spot))} {v3' : Int} {v13 : Int} {v14 : Int} {b0'' : List Spot} {m0 : Nat} (hF : f95_c15 N self v1 v2 v10 v11 r2 v3' v13 v14 b0'' = some r) (h0 : AtH Sf95_c15 st (V2f95_c15 v1 v2 v10 v11 v3' v13 v14 b0'' m0) (B2f95_c15 v1 v2 v10 v11 v3' v13 v14 b0'' m0)) (em0 : m0 = List.length (b0'')) : KHead Sf95_c15 (Yf95_c15 v1 v2 v10 v11 v3') (Xf95_c15 v1 v2 v10 v11 v3') (Jf95_c15 N self v1 v2 v10 v11 r2 v3' r) K .normal st := by
  subst em0; exact khead (I := (Jf95_c15 N self v1 v2 v10 v11 r2 v3' r)) (x := (v13, v14, b0'')) hF h0
def f95_c10 (N : Nat) (self : Int → Int → Int → (List Spot) → Option ((List Spot))) (v1 : Int) (v2 : Int) (v10 : Bool) (v11 : Bool) (r2 : Int → Int → Int → Bool → Bool → (List Spot) → Option ((List Spot))) (v3' : Int) (b0' : List Spot) : Option ((List Spot)) :=
 (f101 N v1 v2 (b0')).bind fun x5 =>
 joinK (f95_c15 N self v1 v2 v10 v11 r2 v3') fun k2 =>
 bif decide (x5.2 = (2 : Int)) then ((f102 N v1 v2 (b0')).bind fun x19 =>
 (keepL (b0') x19).bind fun x20 =>
 k2 (W ((W (v2 - (1 : Int))) - (W (x5.1 - v1)))) (1 : Int) x20)
 else (k2 x5.1 x5.2 (b0'))
def Sf95_c10 : Ann := ⟨[0, 1, 2, 3, 4, 10, 11, 12], [0], [], []⟩
def Vf95_c10 (v1 : Int) (v2 : Int) (v10 : Bool) (v11 : Bool) (v3' : Int) (b0' : List Spot) : List SV := [.rs 0 (List.length (b0')), .dat (iN v1), .dat (iN v2), .dat (iN (v3')), .dat (.v (.func (.func 91) #[] #[])), .kb v10, .kb v11, .dat (iN (W (v2 - v1)))]
def Bf95_c10 (v1 : Int) (v2 : Int) (v10 : Bool) (v11 : Bool) (v3' : Int) (b0' : List Spot) : List Blk := [.row 73 3 (List.map Spot.d (b0'))]
def Yf95_c10 (v1 : Int) (v2 : Int) (v10 : Bool) (v11 : Bool) (y : Int × (List Spot)) : List SV := Vf95_c10 v1 v2 v10 v11 y.1 y.2
def Xf95_c10 (v1 : Int) (v2 : Int) (v10 : Bool) (v11 : Bool) (y : Int × (List Spot)) : List Blk := Bf95_c10 v1 v2 v10 v11 y.1 y.2
def Jf95_c10 (N : Nat) (self : Int → Int → Int → (List Spot) → Option ((List Spot))) (v1 : Int) (v2 : Int) (v10 : Bool) (v11 : Bool) (r2 : Int → Int → Int → Bool → Bool → (List Spot) → Option ((List Spot))) (r : (List Spot)) (y : Int × (List Spot)) : Prop := f95_c10 N self v1 v2 v10 v11 r2 y.1 y.2 = some r
def V2f95_c10 (v1 : Int) (v2 : Int) (v10 : Bool) (v11 : Bool) (v3' : Int) (b0' : List Spot) (m0 : Nat) : List SV := [.rs 0 m0, .dat (iN v1), .dat (iN v2), .dat (iN (v3')), .dat (.v (.func (.func 91) #[] #[])), .kb v10, .kb v11, .dat (iN (W (v2 - v1)))]
def B2f95_c10 (v1 : Int) (v2 : Int) (v10 : Bool) (v11 : Bool) (v3' : Int) (b0' : List Spot) (m0 : Nat) : List Blk := [.row 73 3 (List.map Spot.d (b0'))]
theorem Cf95_c10 {r : (List Spot)} {N : Nat} {self : Int → Int → Int → (List Spot) → Option ((List Spot))} {v1 : Int} {v2 : Int} {v10 : Bool} {v11 : Bool} {r2 : Int → Int → Int → Bool → Bool → (List Spot) → Option ((List Spot))} {g : _ → Option ((List Spot))} (hn : Nat.beq (nid * 1000 + firstRegion b) 1000010 = true) (hz : Sf95_c10.ok p = true) (h : g (f95_c10 N self v1 v2 v10 v11 r2) = some r → vc c p nid a st (KHead Sf95_c10 (Yf95_c10 v1 v2 v10 v11) (Xf95_c10 v1 v2 v10 v11) (Jf95_c10 N self v1 v2 v10 v11 r2 r) K)) (h2 : ∀ (v3' : Int) (b0' : List Spot), f95_c10 N self v1 v2 v10 v11 r2 v3' b0' = some r → vc c p nid b (St.mk' Sf95_c10 (Vf95_c10 v1 v2 v10 v11 v3' b0') (Bf95_c10 v1 v2 v10 v11 v3' b0')) K) (hF : joinK (f95_c10 N self v1 v2 v10 v11 r2) g = some r) : vc c p nid (.seq a b) st K :=
  vc_cut Sf95_c10 (Yf95_c10 v1 v2 v10 v11) (Xf95_c10 v1 v2 v10 v11) (Jf95_c10 N self v1 v2 v10 v11 r2 r) hz (h hF) fun y hy => h2 y.1 y.2 hy
theorem Zf95_c10 {r : (List Spot)} {N : Nat} {self : Int → Int → Int → (List Spot) → Option ((List Spot))} {v1 : Int} {v2 : Int} {v10 : Bool} {v11 : Bool} {r2 : Int → Int → Int → Bool → Bool → (List Spot) → Option ((List Spot))} {v3' : Int} {b0' : List Spot} {m0 : Nat} (hF : f95_c10 N self v1 v2 v10 v11 r2 v3' b0' = some r) (h0 : AtH Sf95_c10 st (V2f95_c10 v1 v2 v10 v11 v3' b0' m0) (B2f95_c10 v1 v2 v10 v11 v3' b0' m0)) (em0 : m0 = List.length (b0')) : KHead Sf95_c10 (Yf95_c10 v1 v2 v10 v11) (Xf95_c10 v1 v2 v10 v11) (Jf95_c10 N self v1 v2 v10 v11 r2 r) K .normal st := by
  subst em0; exact khead (I := (Jf95_c10 N self v1 v2 v10 v11 r2 r)) (x := (v3', b0')) hF h0
def f95_2b (r2 : Int → Int → Int → Bool → Bool → (List Spot) → Option ((List Spot))) (N : Nat) (self : Int → Int → Int → (List Spot) → Option ((List Spot))) (v1 : Int) (v2 : Int) (v3 : Int) (v10 : Bool) (v11 : Bool) (b0 : List Spot) : Option ((List Spot)) :=
 bif decide ((W (v2 - v1)) ≤ (12 : Int)) then ((f98 N v1 v2 b0).bind fun x1 =>
 (keepL b0 x1).bind fun x2 =>
 some (x2))
 else (bif decide (v3 = (0 : Int)) then ((f99 N v1 v2 b0).bind fun x3 =>
 (keepL b0 x3).bind fun x4 =>
 some (x4))
 else (joinK (f95_c10 N self v1 v2 v10 v11 r2) fun k3 =>
 bif !v10 then ((f100 N v1 v2 b0).bind fun x21 =>
 (keepL b0 x21).bind fun x22 =>
 k3 (W (v3 - (1 : Int))) x22)
 else (k3 v3 b0)))
def f95_2 (N : Nat) (self : Int → Int → Int → (List Spot) → Option ((List Spot))) : Nat → Int → Int → Int → Bool → Bool → (List Spot) → Option ((List Spot))
  | 0, _, _, _, _, _, _ => none
  | n + 1, v1, v2, v3, v10, v11, b0 => f95_2b (f95_2 N self n) N self v1 v2 v3 v10 v11 b0
def Sf95_2 : Ann := ⟨[0, 1, 2, 3, 4, 10, 11], [0], [], []⟩
def Vf95_2 (v1 : Int) (v2 : Int) (v3 : Int) (v10 : Bool) (v11 : Bool) (b0 : List Spot) : List SV := [.rs 0 (List.length b0), .dat (iN v1), .dat (iN v2), .dat (iN v3), .dat (.v (.func (.func 91) #[] #[])), .kb v10, .kb v11]
def Bf95_2 (v1 : Int) (v2 : Int) (v3 : Int) (v10 : Bool) (v11 : Bool) (b0 : List Spot) : List Blk := [.row 73 3 (List.map Spot.d b0)]
def Yf95_2 (y : Nat × Int × Int × Int × Bool × Bool × (List Spot)) : List SV := Vf95_2 y.2.1 y.2.2.1 y.2.2.2.1 y.2.2.2.2.1 y.2.2.2.2.2.1 y.2.2.2.2.2.2
def Xf95_2 (y : Nat × Int × Int × Int × Bool × Bool × (List Spot)) : List Blk := Bf95_2 y.2.1 y.2.2.1 y.2.2.2.1 y.2.2.2.2.1 y.2.2.2.2.2.1 y.2.2.2.2.2.2
def Jf95_2 (N : Nat) (self : Int → Int → Int → (List Spot) → Option ((List Spot))) (r : (List Spot)) (y : Nat × Int × Int × Int × Bool × Bool × (List Spot)) : Prop := f95_2 N self y.1 y.2.1 y.2.2.1 y.2.2.2.1 y.2.2.2.2.1 y.2.2.2.2.2.1 y.2.2.2.2.2.2 = some r
def V2f95_2 (v1 : Int) (v2 : Int) (v3 : Int) (v10 : Bool) (v11 : Bool) (b0 : List Spot) (m0 : Nat) : List SV := [.rs 0 m0, .dat (iN v1), .dat (iN v2), .dat (iN v3), .dat (.v (.func (.func 91) #[] #[])), .kb v10, .kb v11]
def B2f95_2 (v1 : Int) (v2 : Int) (v3 : Int) (v10 : Bool) (v11 : Bool) (b0 : List Spot) (m0 : Nat) : List Blk := [.row 73 3 (List.map Spot.d b0)]
theorem Lf95_2 {r : (List Spot)} {N : Nat} {self : Int → Int → Int → (List Spot) → Option ((List Spot))} {fu : Nat} {v1 : Int} {v2 : Int} {v3 : Int} {v10 : Bool} {v11 : Bool} {b0 : List Spot} {m0 : Nat} (hz : Sf95_2.ok p = true) (h0 : AtH Sf95_2 st (V2f95_2 v1 v2 v3 v10 v11 b0 m0) (B2f95_2 v1 v2 v3 v10 v11 b0 m0)) (em0 : m0 = List.length b0) (h : ∀ (n : Nat) (v1 : Int) (v2 : Int) (v3 : Int) (v10 : Bool) (v11 : Bool) (b0 : List Spot), f95_2b (f95_2 N self n) N self v1 v2 v3 v10 v11 b0 = some r → vc c p nid a (St.mk' Sf95_2 (Vf95_2 v1 v2 v3 v10 v11 b0) (Bf95_2 v1 v2 v3 v10 v11 b0)) (Kloop Sf95_2 Yf95_2 Xf95_2 (Jf95_2 N self r) Prod.fst (n + 1, v1, v2, v3, v10, v11, b0) K)) (hF : f95_2 N self fu v1 v2 v3 v10 v11 b0 = some r) : vc c p nid (.loop a) st K := by
  subst em0; refine vc_loop Sf95_2 Yf95_2 Xf95_2 (Jf95_2 N self r) Prod.fst hz (kheadL (x := (fu, v1, v2, v3, v10, v11, b0)) hF h0) ?_
  rintro ⟨_ | n, v1, v2, v3, v10, v11, b0⟩ hI
  · cases hI
  · exact h n v1 v2 v3 v10 v11 b0 hI
theorem Mf95_2 {r : (List Spot)} {N : Nat} {self : Int → Int → Int → (List Spot) → Option ((List Spot))} {n : Nat} {v1 : Int} {v2 : Int} {v3 : Int} {v10 : Bool} {v11 : Bool} {b0 : List Spot} {v1_ : Int} {v2_ : Int} {v3_ : Int} {v10_ : Bool} {v11_ : Bool} {b0_ : List Spot} {m0 : Nat} (hF : f95_2 N self n v1 v2 v3 v10 v11 b0 = some r) (h0 : AtH Sf95_2 st (V2f95_2 v1 v2 v3 v10 v11 b0 m0) (B2f95_2 v1 v2 v3 v10 v11 b0 m0)) (em0 : m0 = List.length b0) : Kloop Sf95_2 Yf95_2 Xf95_2 (Jf95_2 N self r) Prod.fst (n + 1, v1_, v2_, v3_, v10_, v11_, b0_) K .normal st := by
  subst em0; exact kback (y := (n, v1, v2, v3, v10, v11, b0)) hF (Nat.lt_succ_self n) h0
def f95b (self : Int → Int → Int → (List Spot) → Option ((List Spot))) (N : Nat) (s0 : Int) (s1 : Int) (s2 : Int) (s3 : List Spot) : Option ((List Spot)) :=
 f95_2 N self N s0 s1 s2 true true s3
def f95 : Nat → Int → Int → Int → (List Spot) → Option ((List Spot))
  | 0, _, _, _, _ => none
  | N + 1, s0, s1, s2, s3 => f95b (f95 N) N s0 s1 s2 s3
def Af95 (s0 : Int) (s1 : Int) (s2 : Int) (s3 : List Spot) : List SV := [.rs 0 (List.length s3), .dat (iN s0), .dat (iN s1), .dat (iN s2), .dat (.v (.func (.func 91) #[] #[]))]
def Bf95 (s0 : Int) (s1 : Int) (s2 : Int) (s3 : List Spot) : List Blk := [.row 73 3 (List.map Spot.d s3)]
def Rf95 (y : (List Spot)) : List SV := []
def B1f95 (s0 : Int) (s1 : Int) (s2 : Int) (s3 : List Spot) (y : (List Spot)) : List Blk := [.row 73 3 (List.map Spot.d y)]
def BZf95 (y : (List Spot)) : Blk := .unborn
def Spf95 : Spec (Int × Int × Int × (List Spot)) ((List Spot)) := ⟨1, fun x => Af95 x.1 x.2.1 x.2.2.1 x.2.2.2, fun x => Bf95 x.1 x.2.1 x.2.2.1 x.2.2.2, fun _ y => Rf95 y, fun x y => B1f95 x.1 x.2.1 x.2.2.1 x.2.2.2 y, fun _ y => BZf95 y⟩
def H95 (N : Nat) (x : Int × Int × Int × (List Spot)) (y : (List Spot)) : Prop := f95 N x.1 x.2.1 x.2.2.1 x.2.2.2 = some y
def G95 (x : Int × Int × Int × (List Spot)) (y : (List Spot)) : Prop := ∃ N, H95 N x y
theorem H95.step {N : Nat} {s0 : Int} {s1 : Int} {s2 : Int} {s3 : List Spot} {m0 : Nat} {ρ : Type} {A : (List Spot) → Option ρ} {q : ρ} {xs : List SV} {id : Nat} {m : Nat → Blk} {l : List Loc} {K : Dl → List Loc → Prop} {k0 : Nat} (ha : xs = [.rs k0 m0, .dat (iN s0), .dat (iN s1), .dat (iN s2), .dat (.v (.func (.func 91) #[] #[]))]) (b0 : m k0 = .row 73 3 (List.map Spot.d s3)) (em0 : m0 = List.length s3) (hu : m id = .unborn) (hn : nodupB [k0] = true) (h : ∀ y, A y = some q → K ⟨.tup [], [(k0, .row 73 3 (List.map Spot.d y)), (id, .unborn)]⟩ l) (hF : (f95 N s0 s1 s2 s3).bind A = some q) : effPg Spf95 (H95 N) xs id (fun _ => SV.no) m l K := by
  subst em0; obtain ⟨y, hy, hA⟩ := bind_some hF
  exact eff_step [k0] (s0, s1, s2, s3) y _ hy rfl hn ha (by simp only [List.map_cons, List.map_nil, b0]; rfl) hu rfl rfl (h y hA)
theorem G95.step {N : Nat} {s0 : Int} {s1 : Int} {s2 : Int} {s3 : List Spot} {m0 : Nat} {ρ : Type} {A : (List Spot) → Option ρ} {q : ρ} {xs : List SV} {id : Nat} {m : Nat → Blk} {l : List Loc} {K : Dl → List Loc → Prop} {k0 : Nat} (ha : xs = [.rs k0 m0, .dat (iN s0), .dat (iN s1), .dat (iN s2), .dat (.v (.func (.func 91) #[] #[]))]) (b0 : m k0 = .row 73 3 (List.map Spot.d s3)) (em0 : m0 = List.length s3) (hu : m id = .unborn) (hn : nodupB [k0] = true) (h : ∀ y, A y = some q → K ⟨.tup [], [(k0, .row 73 3 (List.map Spot.d y)), (id, .unborn)]⟩ l) (hF : (f95 N s0 s1 s2 s3).bind A = some q) : effPg Spf95 (G95) xs id (fun _ => SV.no) m l K := by
  subst em0; obtain ⟨y, hy, hA⟩ := bind_some hF
  exact eff_step [k0] (s0, s1, s2, s3) y _ ⟨N, hy⟩ rfl hn ha (by simp only [List.map_cons, List.map_nil, b0]; rfl) hu rfl rfl (h y hA)
def Srf95 : Ann := ⟨[], [0, 500], [], []⟩
set_option maxRecDepth 20000 in
set_option maxHeartbeats 4000000 in
theorem Q95 (N : Nat) : CallOK Try.prog 95 (effPg Spf95 (H95 N)) := by
  induction N with
  | zero => exact eff_none fun x y h => (by cases (show (none : Option ((List Spot))) = some y from h))
  | succ N ih =>
    refine eff_of_vc (c := mkCtx tyTree [(95, false, effPg Spf95 (H95 N)), (105, false, effPg Spf105 G105), (104, false, effPg Spf104 G104), (103, false, effPg Spf103 G103), (102, false, effPg Spf102 G102), (101, false, effPg Spf101 G101), (100, false, effPg Spf100 G100), (99, false, effPg Spf99 G99), (98, false, effPg Spf98 G98), (91, true, lendPg [[0, 0, 0], [0, 0, 0]] G91)]) rfl tyOK (ctx_eff (callable Try.func95 rfl rfl) ih (ctx_eff (callable Try.func105 rfl rfl) P105 (ctx_eff (callable Try.func104 rfl rfl) P104 (ctx_eff (callable Try.func103 rfl rfl) P103 (ctx_eff (callable Try.func102 rfl rfl) P102 (ctx_eff (callable Try.func101 rfl rfl) P101 (ctx_eff (callable Try.func100 rfl rfl) P100 (ctx_eff (callable Try.func99 rfl rfl) P99 (ctx_eff (callable Try.func98 rfl rfl) P98 (ctx_lend (callable Try.func91 rfl rfl) P91 (ctx_nil))))))))))) 1000 500 Srf95 Try.func95 rfl rfl (by kernel_rfl) rfl rfl rfl rfl rfl (fun _ => rfl) (fun _ => rfl) (fun _ _ => ⟨rfl, rfl⟩) ?_
    rintro ⟨s0, s1, s2, s3⟩ y hF
    have hF : f95b (f95 N) N s0 s1 s2 s3 = some y := hF
    show vc _ _ _ _ ⟨[(0, .rs 0 (List.length s3)), (1, .dat (iN s0)), (2, .dat (iN s1)), (3, .dat (iN s2)), (4, .dat (.v (.func (.func 91) #[] #[])))], [(0, .row 73 3 (List.map Spot.d s3))]⟩ _
    unfold f95b at hF
    repeat' (first
      | ((with_reducible refine q0 _ _ ?_); clear Q q0 q1 q2)
      | ((with_reducible refine q1 _ _ _ _ ?_); clear Q q0 q1 q2)
      | ((with_reducible refine q2 _ _ _ ?_); clear Q q0 q1 q2)
      | ((with_reducible refine seq_op ?hx (fun Q q0 q1 q2 => ?_)); (case hx => exact rfl); conv => whnf)
      | ((with_reducible refine draw_op ?hx (fun Q q0 q1 q2 => ?_)); (case hx => exact rfl); conv => whnf)
      | ((with_reducible refine seq_off ?hx ?_); (case hx => exact rfl))
      | ((with_reducible refine seq_off0 ?hx ?_); (case hx => exact rfl))
      | ((with_reducible refine draw_off ?hx ?_); (case hx => exact rfl))
      | ((with_reducible refine draw_off0 ?hx ?_); (case hx => exact rfl))
      | ((with_reducible refine seq_id ?_); (first | ((refine seq_opK rfl ?hy (fun Q q0 q1 q2 => ?_)); (case hy => first | assumption | exact notT (by assumption) | exact rfl); conv => whnf) | ((refine seq_offK rfl ?hy ?_); (case hy => first | assumption | exact notF (by assumption) | exact rfl)) | ((refine seq_opK0 rfl ?hy (fun Q q0 q1 q2 => ?_)); (case hy => first | assumption | exact notT (by assumption) | exact rfl); conv => whnf) | ((refine seq_offK0 rfl ?hy ?_); (case hy => first | assumption | exact notF (by assumption) | exact rfl)) | (revert hF; (with_reducible refine seq_opF ?hx ?_ ?_); (case hx => exact rfl); (intro hc hF Q q0 q1 q2; conv => whnf); rotate_left; (intro hc hF); rotate_right) | (revert hF; (with_reducible refine seq_opN ?hx ?_ ?_); (case hx => exact rfl); (intro hc hF); rotate_left; (intro hc hF Q q0 q1 q2; conv => whnf); rotate_right) | (revert hF; (with_reducible refine seq_opF0 ?hx ?_ ?_); (case hx => exact rfl); (intro hc hF Q q0 q1 q2; conv => whnf); rotate_left; (intro hc hF); rotate_right) | (revert hF; (with_reducible refine seq_opN0 ?hx ?_ ?_); (case hx => exact rfl); (intro hc hF); rotate_left; (intro hc hF Q q0 q1 q2; conv => whnf); rotate_right)))
      | ((with_reducible refine draw_id ?_); (first | ((refine draw_opK rfl ?hy (fun Q q0 q1 q2 => ?_)); (case hy => first | assumption | exact notT (by assumption) | exact rfl); conv => whnf) | ((refine draw_offK rfl ?hy ?_); (case hy => first | assumption | exact notF (by assumption) | exact rfl)) | ((refine draw_opK0 rfl ?hy (fun Q q0 q1 q2 => ?_)); (case hy => first | assumption | exact notT (by assumption) | exact rfl); conv => whnf) | ((refine draw_offK0 rfl ?hy ?_); (case hy => first | assumption | exact notF (by assumption) | exact rfl)) | (revert hF; (with_reducible refine draw_opF ?hx ?_ ?_); (case hx => exact rfl); (intro hc hF Q q0 q1 q2; conv => whnf); rotate_left; (intro hc hF); rotate_right) | (revert hF; (with_reducible refine draw_opN ?hx ?_ ?_); (case hx => exact rfl); (intro hc hF); rotate_left; (intro hc hF Q q0 q1 q2; conv => whnf); rotate_right) | (revert hF; (with_reducible refine draw_opF0 ?hx ?_ ?_); (case hx => exact rfl); (intro hc hF Q q0 q1 q2; conv => whnf); rotate_left; (intro hc hF); rotate_right) | (revert hF; (with_reducible refine draw_opN0 ?hx ?_ ?_); (case hx => exact rfl); (intro hc hF); rotate_left; (intro hc hF Q q0 q1 q2; conv => whnf); rotate_right)))
      | ((with_reducible refine cond_id ?_); (first | ((refine condKT rfl ?hy ?_); (case hy => first | assumption | exact notT (by assumption) | exact rfl)) | ((refine condKF rfl ?hy ?_); (case hy => first | assumption | exact notF (by assumption) | exact rfl)) | (revert hF; (with_reducible refine condF ?hx ?_ ?_); (case hx => exact rfl); all_goals (intro hc hF))))
      | ((with_reducible refine seq_nil ?_); (first | ((with_reducible refine hR _ ?_); clear R hR) | ((with_reducible refine hL _ ?_); clear L hL)))
      | ((with_reducible refine draw_nil ?_); (with_reducible refine hR _ _ ?hx ?_); (case hx => kernel_rfl); (first | clear R hR | clear hR))
      | ((with_reducible refine int_step ?_); conv => whnf)
      | ((with_reducible refine len_step ?_); conv => whnf)
      | ((with_reducible refine idx2 (by assumption) ?_); conv => whnf)
      | ((with_reducible refine idx3 (by assumption) ?_); conv => whnf)
      | with_reducible refine vc_block ?_
      | with_reducible refine vc_skip ?_
      | with_reducible refine vc_ret ?_
      | with_reducible refine vc_exit ?_
      | ((with_reducible refine vc_seqN [1000020, 1000017, 1000015, 1000010] ?hx ?_); (case hx => exact rfl))
      | (with_reducible refine vc_region (fun R hR => ?_))
      | ((with_reducible refine vc_draw ?hx (fun R hR => ?_)); (case hx => exact rfl))
      | fail
      | (revert hF; (refine Cf95_c20 rfl rfl ?_ ?_); (intro hF); rotate_left; (intro _ hF; unfold f95_c20 at hF); rotate_right)
      | exact Zf95_c20 hF ⟨_, rfl, rfl, rfl, rfl⟩ (by first | exact rfl | assumption | omega)
      | (revert hF; (refine Cf95_c17 rfl rfl ?_ ?_); (intro hF); rotate_left; (intro b0''' hF; unfold f95_c17 at hF); rotate_right)
      | exact Zf95_c17 hF ⟨_, rfl, rfl, rfl, rfl⟩ (by first | exact rfl | assumption | omega)
      | (revert hF; (refine Cf95_c15 rfl rfl ?_ ?_); (intro hF); rotate_left; (intro v13 v14 b0'' hF; unfold f95_c15 at hF); rotate_right)
      | exact Zf95_c15 hF ⟨_, rfl, rfl, rfl, rfl⟩ (by first | exact rfl | assumption | omega)
      | (revert hF; (refine Cf95_c10 rfl rfl ?_ ?_); (intro hF); rotate_left; (intro v3' b0' hF; unfold f95_c10 at hF); rotate_right)
      | exact Zf95_c10 hF ⟨_, rfl, rfl, rfl, rfl⟩ (by first | exact rfl | assumption | omega)
      | (revert hF; (refine Lf95_2 rfl ⟨_, rfl, rfl, rfl, rfl⟩ (by first | exact rfl | assumption | omega) ?_); intro n v1 v2 v3 v10 v11 b0 hF; unfold f95_2b at hF)
      | exact Mf95_2 hF ⟨_, rfl, rfl, rfl, rfl⟩ (by first | exact rfl | assumption | omega)
      | (revert hF; (with_reducible refine G91.lend ?hx ?_); (case hx => exact rfl); intro v hF; conv => whnf)
      | (revert hF; (refine G98.step rfl rfl (by first | exact rfl | assumption | omega) rfl ?hn ?_); (case hn => exact rfl); intro v hF; conv => whnf)
      | (revert hF; (refine G99.step rfl rfl (by first | exact rfl | assumption | omega) rfl ?hn ?_); (case hn => exact rfl); intro v hF; conv => whnf)
      | (revert hF; (refine G100.step rfl rfl (by first | exact rfl | assumption | omega) rfl ?hn ?_); (case hn => exact rfl); intro v hF; conv => whnf)
      | (revert hF; (refine G101.step rfl rfl (by first | exact rfl | assumption | omega) rfl ?hn ?_); (case hn => exact rfl); intro v hF; conv => whnf)
      | (revert hF; (refine G102.step rfl rfl (by first | exact rfl | assumption | omega) rfl ?hn ?_); (case hn => exact rfl); intro v hF; conv => whnf)
      | (revert hF; (refine G103.step rfl rfl (by first | exact rfl | assumption | omega) rfl ?hn ?_); (case hn => exact rfl); intro v hF; conv => whnf)
      | (revert hF; (refine G104.step rfl rfl (by first | exact rfl | assumption | omega) rfl ?hn ?_); (case hn => exact rfl); intro v hF; conv => whnf)
      | (revert hF; (refine G105.step rfl rfl (by first | exact rfl | assumption | omega) rfl ?hn ?_); (case hn => exact rfl); intro v hF; conv => whnf)
      | (revert hF; (refine H95.step rfl rfl (by first | exact rfl | assumption | omega) rfl ?hn ?_); (case hn => exact rfl); intro v hF; conv => whnf)
      | (show retE _ _ _ _ _ _; conv => whnf)
      | (cases hF; exact ⟨rfl, rfl, rfl⟩)
      | ((with_reducible have hG := keep_fact hF); have hk := hG.1; have hF := hG.2; clear hG)
      | with_reducible refine k_seq_ret ?_
      | with_reducible refine k_seq_exit ?_
      | with_reducible refine k_blk ?_
      | with_reducible refine k_blk_ret ?_
      | with_reducible refine k_blk_here ?_
      | ((with_reducible refine k_blk_out ?hx ?_); (case hx => exact rfl))
      | with_reducible refine k_loop_ret ?_
      | with_reducible refine k_loop_exit ?_
      | (revert hF; (with_reducible refine idx1 ?hn ?_); (case hn => first | exact rfl | exact (List.length_map _) | assumption | omega | simp); intro x hx hF; conv => whnf)
      | ((refine row_all ?hn ?_); (case hn => first | exact rfl | (simp; done) | (simp; omega)); conv => whnf)
      | ((with_reducible refine le_step ?hn ?_); (case hn => first | exact rfl | assumption | omega); conv => whnf)
      | ((refine ⟨?hx, ?_⟩); (case hx => exact ⟨rfl, Nat.le_of_ble_eq_true rfl, rfl⟩); conv => whnf)
      | ((with_reducible refine ex_step ?_); conv => whnf)
      | ((with_reducible refine both_T ?hx ?_); (case hx => first | exact rfl | assumption | exact notT (by assumption)); conv => whnf)
      | ((with_reducible refine both_F ?hx ?_); (case hx => first | exact rfl | assumption | exact notF (by assumption)); conv => whnf)
      | (revert hF; (with_reducible refine ite_step ?_ ?_) <;> (intro hc hF; conv => whnf))
      | ((with_reducible refine vc_condT ?hx ?_); (case hx => exact rfl))
      | ((with_reducible refine vc_condF ?hx ?_); (case hx => exact rfl))
      | (show retD _ _ _ _ _ _; conv => whnf)
      | ((refine ⟨?hx, trivial⟩); (case hx => (cases hF; exact rfl)))
      | ((refine ⟨?hx, ?_⟩); (case hx => decide); conv => whnf)
      | ((with_reducible refine k_seq ?_))
      | (have hF : (none : Option _) = some _ := hF; cases hF))
theorem P95 : CallOK Try.prog 95 (effPg Spf95 G95) := eff_ex Q95
end
end Go.Vc
namespace Go.Vc
open Go.Proofs
set_option linter.unusedVariables false
set_option linter.unnecessarySimpa false
set_option linter.unusedSimpArgs false
section
variable {c : Ctx} {p nid : Nat} {a b : Code} {st : St} {K : Ex → St → Prop}
/- f43: tusche/serial.Blind -/
def f43_i101_c20 (N : Nat) (out7 : List Spot) : Option ((List Spot) × Int) :=
 (f96 N (Wk .u64 ((List.length out7 : Int)))).bind fun x2 =>
 (f95 N (0 : Int) (List.length out7 : Int) x2 out7).bind fun x3 =>
 (keepL out7 x3).bind fun x4 =>
 some (x4, (0 : Int))
def Sf43_i101_c20 : Ann := ⟨[7], [102090007], [(.slot 7, 102090007, 73, 3)], []⟩
def Vf43_i101_c20 (out7 : List Spot) : List SV := [.rs 102090007 (List.length out7)]
def Bf43_i101_c20 (out7 : List Spot) : List Blk := [.row 73 3 (List.map Spot.d out7)]
def Yf43_i101_c20 (y : (List Spot)) : List SV := Vf43_i101_c20 y
def Xf43_i101_c20 (y : (List Spot)) : List Blk := Bf43_i101_c20 y
def Jf43_i101_c20 (N : Nat) (r : (List Spot) × Int) (y : (List Spot)) : Prop := f43_i101_c20 N y = some r
def V2f43_i101_c20 (out7 : List Spot) (m0 : Nat) : List SV := [.rs 102090007 m0]
def B2f43_i101_c20 (out7 : List Spot) (m0 : Nat) : List Blk := [.row 73 3 (List.map Spot.d out7)]
theorem Cf43_i101_c20 {r : (List Spot) × Int} {N : Nat} {g : _ → Option ((List Spot) × Int)} (hn : Nat.beq (nid * 1000 + firstRegion b) 102000000020 = true) (hz : Sf43_i101_c20.ok p = true) (h : g (f43_i101_c20 N) = some r → vc c p nid a st (KHead Sf43_i101_c20 Yf43_i101_c20 Xf43_i101_c20 (Jf43_i101_c20 N r) K)) (h2 : ∀ (out7 : List Spot), f43_i101_c20 N out7 = some r → vc c p nid b (St.mk' Sf43_i101_c20 (Vf43_i101_c20 out7) (Bf43_i101_c20 out7)) K) (hF : joinK (f43_i101_c20 N) g = some r) : vc c p nid (.seq a b) st K :=
  vc_cut Sf43_i101_c20 Yf43_i101_c20 Xf43_i101_c20 (Jf43_i101_c20 N r) hz (h hF) fun y hy => h2 y hy
theorem Zf43_i101_c20 {r : (List Spot) × Int} {N : Nat} {out7 : List Spot} {m0 : Nat} (hF : f43_i101_c20 N out7 = some r) (h0 : AtH Sf43_i101_c20 st (V2f43_i101_c20 out7 m0) (B2f43_i101_c20 out7 m0)) (em0 : m0 = List.length out7) : KHead Sf43_i101_c20 Yf43_i101_c20 Xf43_i101_c20 (Jf43_i101_c20 N r) K .normal st := by
  subst em0; exact khead (I := (Jf43_i101_c20 N r)) (x := (out7)) hF h0
def f43_i101_c19 (a0 : List (List Int)) (v20 : Int) (r6 : (List Spot) → Int → Option ((List Spot) × Int)) (out7' : List Spot) : Option ((List Spot) × Int) :=
 r6 (out7') (W (v20 + (1 : Int)))
def Sf43_i101_c19 : Ann := ⟨[0, 1, 7, 19, 20], [102090007], [(.slot 7, 102090007, 73, 3)], []⟩
def Vf43_i101_c19 (a0 : List (List Int)) (v20 : Int) (out7' : List Spot) : List SV := [.dat (sl_sl_iN a0), .dat (.v (.func (.func 77) #[] #[])), .rs 102090007 (List.length (out7')), .dat (iN (List.length a0 : Int)), .dat (iN v20)]
def Bf43_i101_c19 (a0 : List (List Int)) (v20 : Int) (out7' : List Spot) : List Blk := [.row 73 3 (List.map Spot.d (out7'))]
def Yf43_i101_c19 (a0 : List (List Int)) (v20 : Int) (y : (List Spot)) : List SV := Vf43_i101_c19 a0 v20 y
def Xf43_i101_c19 (a0 : List (List Int)) (v20 : Int) (y : (List Spot)) : List Blk := Bf43_i101_c19 a0 v20 y
def Jf43_i101_c19 (a0 : List (List Int)) (v20 : Int) (r6 : (List Spot) → Int → Option ((List Spot) × Int)) (r : (List Spot) × Int) (y : (List Spot)) : Prop := f43_i101_c19 a0 v20 r6 y = some r
def V2f43_i101_c19 (a0 : List (List Int)) (v20 : Int) (out7' : List Spot) (m0 : Nat) : List SV := [.dat (sl_sl_iN a0), .dat (.v (.func (.func 77) #[] #[])), .rs 102090007 m0, .dat (iN (List.length a0 : Int)), .dat (iN v20)]
def B2f43_i101_c19 (a0 : List (List Int)) (v20 : Int) (out7' : List Spot) (m0 : Nat) : List Blk := [.row 73 3 (List.map Spot.d (out7'))]
theorem Cf43_i101_c19 {r : (List Spot) × Int} {a0 : List (List Int)} {v20 : Int} {r6 : (List Spot) → Int → Option ((List Spot) × Int)} {g : _ → Option ((List Spot) × Int)} (hn : Nat.beq (nid * 1000 + firstRegion b) 102000000019 = true) (hz : Sf43_i101_c19.ok p = true) (h : g (f43_i101_c19 a0 v20 r6) = some r → vc c p nid a st (KHead Sf43_i101_c19 (Yf43_i101_c19 a0 v20) (Xf43_i101_c19 a0 v20) (Jf43_i101_c19 a0 v20 r6 r) K)) (h2 : ∀ (out7' : List Spot), f43_i101_c19 a0 v20 r6 out7' = some r → vc c p nid b (St.mk' Sf43_i101_c19 (Vf43_i101_c19 a0 v20 out7') (Bf43_i101_c19 a0 v20 out7')) K) (hF : joinK (f43_i101_c19 a0 v20 r6) g = some r) : vc c p nid (.seq a b) st K :=
  vc_cut Sf43_i101_c19 (Yf43_i101_c19 a0 v20) (Xf43_i101_c19 a0 v20) (Jf43_i101_c19 a0 v20 r6 r) hz (h hF) fun y hy => h2 y hy
theorem Zf43_i101_c19 {r : (List Spot) × Int} {a0 : List (List Int)} {v20 : Int} {r6 : (List Spot) → Int → Option ((List Spot) × Int)} {out7' : List Spot} {m0 : Nat} (hF : f43_i101_c19 a0 v20 r6 out7' = some r) (h0 : AtH Sf43_i101_c19 st (V2f43_i101_c19 a0 v20 out7' m0) (B2f43_i101_c19 a0 v20 out7' m0)) (em0 : m0 = List.length (out7')) : KHead Sf43_i101_c19 (Yf43_i101_c19 a0 v20) (Xf43_i101_c19 a0 v20) (Jf43_i101_c19 a0 v20 r6 r) K .normal st := by
  subst em0; exact khead (I := (Jf43_i101_c19 a0 v20 r6 r)) (x := (out7')) hF h0
def f43_i101_c18 (a0 : List (List Int)) (v20 : Int) (v25 : Int) (r9 : (List Spot) → Int → Option ((List Spot) × Int)) (out7'' : List Spot) : Option ((List Spot) × Int) :=
 r9 (out7'') (W (v25 + (1 : Int)))
def Sf43_i101_c18 : Ann := ⟨[0, 1, 7, 8, 19, 20, 24, 25], [102090007], [(.slot 7, 102090007, 73, 3)], []⟩
def Vf43_i101_c18 (a0 : List (List Int)) (v20 : Int) (v25 : Int) (out7'' : List Spot) : List SV := [.dat (sl_sl_iN a0), .dat (.v (.func (.func 77) #[] #[])), .rs 102090007 (List.length (out7'')), .dat (iN v20), .dat (iN (List.length a0 : Int)), .dat (iN v20), .dat (iN (List.length a0 : Int)), .dat (iN v25)]
def Bf43_i101_c18 (a0 : List (List Int)) (v20 : Int) (v25 : Int) (out7'' : List Spot) : List Blk := [.row 73 3 (List.map Spot.d (out7''))]
def Yf43_i101_c18 (a0 : List (List Int)) (v20 : Int) (v25 : Int) (y : (List Spot)) : List SV := Vf43_i101_c18 a0 v20 v25 y
def Xf43_i101_c18 (a0 : List (List Int)) (v20 : Int) (v25 : Int) (y : (List Spot)) : List Blk := Bf43_i101_c18 a0 v20 v25 y
def Jf43_i101_c18 (a0 : List (List Int)) (v20 : Int) (v25 : Int) (r9 : (List Spot) → Int → Option ((List Spot) × Int)) (r : (List Spot) × Int) (y : (List Spot)) : Prop := f43_i101_c18 a0 v20 v25 r9 y = some r
def V2f43_i101_c18 (a0 : List (List Int)) (v20 : Int) (v25 : Int) (out7'' : List Spot) (m0 : Nat) : List SV := [.dat (sl_sl_iN a0), .dat (.v (.func (.func 77) #[] #[])), .rs 102090007 m0, .dat (iN v20), .dat (iN (List.length a0 : Int)), .dat (iN v20), .dat (iN (List.length a0 : Int)), .dat (iN v25)]
def B2f43_i101_c18 (a0 : List (List Int)) (v20 : Int) (v25 : Int) (out7'' : List Spot) (m0 : Nat) : List Blk := [.row 73 3 (List.map Spot.d (out7''))]
theorem Cf43_i101_c18 {r : (List Spot) × Int} {a0 : List (List Int)} {v20 : Int} {v25 : Int} {r9 : (List Spot) → Int → Option ((List Spot) × Int)} {g : _ → Option ((List Spot) × Int)} (hn : Nat.beq (nid * 1000 + firstRegion b) 102000000018 = true) (hz : Sf43_i101_c18.ok p = true) (h : g (f43_i101_c18 a0 v20 v25 r9) = some r → vc c p nid a st (KHead Sf43_i101_c18 (Yf43_i101_c18 a0 v20 v25) (Xf43_i101_c18 a0 v20 v25) (Jf43_i101_c18 a0 v20 v25 r9 r) K)) (h2 : ∀ (out7'' : List Spot), f43_i101_c18 a0 v20 v25 r9 out7'' = some r → vc c p nid b (St.mk' Sf43_i101_c18 (Vf43_i101_c18 a0 v20 v25 out7'') (Bf43_i101_c18 a0 v20 v25 out7'')) K) (hF : joinK (f43_i101_c18 a0 v20 v25 r9) g = some r) : vc c p nid (.seq a b) st K :=
  vc_cut Sf43_i101_c18 (Yf43_i101_c18 a0 v20 v25) (Xf43_i101_c18 a0 v20 v25) (Jf43_i101_c18 a0 v20 v25 r9 r) hz (h hF) fun y hy => h2 y hy
theorem Zf43_i101_c18 {r : (List Spot) × Int} {a0 : List (List Int)} {v20 : Int} {v25 : Int} {r9 : (List Spot) → Int → Option ((List Spot) × Int)} {out7'' : List Spot} {m0 : Nat} (hF : f43_i101_c18 a0 v20 v25 r9 out7'' = some r) (h0 : AtH Sf43_i101_c18 st (V2f43_i101_c18 a0 v20 v25 out7'' m0) (B2f43_i101_c18 a0 v20 v25 out7'' m0)) (em0 : m0 = List.length (out7'')) : KHead Sf43_i101_c18 (Yf43_i101_c18 a0 v20 v25) (Xf43_i101_c18 a0 v20 v25) (Jf43_i101_c18 a0 v20 v25 r9 r) K .normal st := by
  subst em0; exact khead (I := (Jf43_i101_c18 a0 v20 v25 r9 r)) (x := (out7'')) hF h0
def f43_i101_12b (r12 : (List Spot) → Int → Option ((List Spot) × Int)) (a0 : List (List Int)) (N : Nat) (v20 : Int) (v25 : Int) (k2 : (List Spot) → Option ((List Spot) × Int)) (out7'' : List Spot) (v29 : Int) : Option ((List Spot) × Int) :=
 bif decide (v29 < v25) then ((f77 N v29 v25).bind fun x5 =>
 (f59 N a0 v20 x5.1).bind fun x6 =>
 (f59 N a0 v20 x5.2).bind fun x7 =>
 bif decide (x6 = x7) then ((app 24 (out7'') [(Spot.mk v20 v29 v25)]).bind fun x8 =>
 r12 x8 (W (v29 + (1 : Int))))
 else (r12 (out7'') (W (v29 + (1 : Int)))))
 else (k2 (out7''))
def f43_i101_12 (a0 : List (List Int)) (N : Nat) (v20 : Int) (v25 : Int) (k2 : (List Spot) → Option ((List Spot) × Int)) : Nat → (List Spot) → Int → Option ((List Spot) × Int)
  | 0, _, _ => none
  | n + 1, out7'', v29 => f43_i101_12b (f43_i101_12 a0 N v20 v25 k2 n) a0 N v20 v25 k2 out7'' v29
def Sf43_i101_12 : Ann := ⟨[0, 1, 7, 8, 9, 19, 20, 24, 25, 28, 29], [102090007], [(.slot 7, 102090007, 73, 3)], []⟩
def Vf43_i101_12 (a0 : List (List Int)) (v20 : Int) (v25 : Int) (out7'' : List Spot) (v29 : Int) : List SV := [.dat (sl_sl_iN a0), .dat (.v (.func (.func 77) #[] #[])), .rs 102090007 (List.length (out7'')), .dat (iN v20), .dat (iN v25), .dat (iN (List.length a0 : Int)), .dat (iN v20), .dat (iN (List.length a0 : Int)), .dat (iN v25), .dat (iN v25), .dat (iN v29)]
def Bf43_i101_12 (a0 : List (List Int)) (v20 : Int) (v25 : Int) (out7'' : List Spot) (v29 : Int) : List Blk := [.row 73 3 (List.map Spot.d (out7''))]
def Yf43_i101_12 (a0 : List (List Int)) (v20 : Int) (v25 : Int) (y : Nat × (List Spot) × Int) : List SV := Vf43_i101_12 a0 v20 v25 y.2.1 y.2.2
def Xf43_i101_12 (a0 : List (List Int)) (v20 : Int) (v25 : Int) (y : Nat × (List Spot) × Int) : List Blk := Bf43_i101_12 a0 v20 v25 y.2.1 y.2.2
def Jf43_i101_12 (a0 : List (List Int)) (N : Nat) (v20 : Int) (v25 : Int) (k2 : (List Spot) → Option ((List Spot) × Int)) (r : (List Spot) × Int) (y : Nat × (List Spot) × Int) : Prop := f43_i101_12 a0 N v20 v25 k2 y.1 y.2.1 y.2.2 = some r
def V2f43_i101_12 (a0 : List (List Int)) (v20 : Int) (v25 : Int) (out7'' : List Spot) (v29 : Int) (m0 : Nat) : List SV := [.dat (sl_sl_iN a0), .dat (.v (.func (.func 77) #[] #[])), .rs 102090007 m0, .dat (iN v20), .dat (iN v25), .dat (iN (List.length a0 : Int)), .dat (iN v20), .dat (iN (List.length a0 : Int)), .dat (iN v25), .dat (iN v25), .dat (iN v29)]
def B2f43_i101_12 (a0 : List (List Int)) (v20 : Int) (v25 : Int) (out7'' : List Spot) (v29 : Int) (m0 : Nat) : List Blk := [.row 73 3 (List.map Spot.d (out7''))]
theorem Lf43_i101_12 {r : (List Spot) × Int} {a0 : List (List Int)} {N : Nat} {v20 : Int} {v25 : Int} {k2 : (List Spot) → Option ((List Spot) × Int)} {fu : Nat} {out7'' : List Spot} {v29 : Int} {m0 : Nat} (hz : Sf43_i101_12.ok p = true) (h0 : AtH Sf43_i101_12 st (V2f43_i101_12 a0 v20 v25 out7'' v29 m0) (B2f43_i101_12 a0 v20 v25 out7'' v29 m0)) (em0 : m0 = List.length (out7'')) (h : ∀ (n : Nat) (out7'' : List Spot) (v29 : Int), f43_i101_12b (f43_i101_12 a0 N v20 v25 k2 n) a0 N v20 v25 k2 out7'' v29 = some r → vc c p nid a (St.mk' Sf43_i101_12 (Vf43_i101_12 a0 v20 v25 out7'' v29) (Bf43_i101_12 a0 v20 v25 out7'' v29)) (Kloop Sf43_i101_12 (Yf43_i101_12 a0 v20 v25) (Xf43_i101_12 a0 v20 v25) (Jf43_i101_12 a0 N v20 v25 k2 r) Prod.fst (n + 1, out7'', v29) K)) (hF : f43_i101_12 a0 N v20 v25 k2 fu out7'' v29 = some r) : vc c p nid (.loop a) st K := by
  subst em0; refine vc_loop Sf43_i101_12 (Yf43_i101_12 a0 v20 v25) (Xf43_i101_12 a0 v20 v25) (Jf43_i101_12 a0 N v20 v25 k2 r) Prod.fst hz (kheadL (x := (fu, out7'', v29)) hF h0) ?_
  rintro ⟨_ | n, out7'', v29⟩ hI
  · cases hI
  · exact h n out7'' v29 hI
theorem Mf43_i101_12 {r : (List Spot) × Int} {a0 : List (List Int)} {N : Nat} {v20 : Int} {v25 : Int} {k2 : (List Spot) → Option ((List Spot) × Int)} {n : Nat} {out7'' : List Spot} {v29 : Int} {out7''_ : List Spot} {v29_ : Int} {m0 : Nat} (hF : f43_i101_12 a0 N v20 v25 k2 n out7'' v29 = some r) (h0 : AtH Sf43_i101_12 st (V2f43_i101_12 a0 v20 v25 out7'' v29 m0) (B2f43_i101_12 a0 v20 v25 out7'' v29 m0)) (em0 : m0 = List.length (out7'')) : Kloop Sf43_i101_12 (Yf43_i101_12 a0 v20 v25) (Xf43_i101_12 a0 v20 v25) (Jf43_i101_12 a0 N v20 v25 k2 r) Prod.fst (n + 1, out7''_, v29_) K .normal st := by
  subst em0; exact kback (y := (n, out7'', v29)) hF (Nat.lt_succ_self n) h0
def f43_i101_9b (r9 : (List Spot) → Int → Option ((List Spot) × Int)) (a0 : List (List Int)) (N : Nat) (v20 : Int) (k1 : (List Spot) → Option ((List Spot) × Int)) (out7' : List Spot) (v25 : Int) : Option ((List Spot) × Int) :=
 bif decide (v25 < (List.length a0 : Int)) then (joinK (f43_i101_c18 a0 v20 v25 r9) fun k2 =>
 f43_i101_12 a0 N v20 v25 k2 N (out7') (0 : Int))
 else (k1 (out7'))
def f43_i101_9 (a0 : List (List Int)) (N : Nat) (v20 : Int) (k1 : (List Spot) → Option ((List Spot) × Int)) : Nat → (List Spot) → Int → Option ((List Spot) × Int)
  | 0, _, _ => none
  | n + 1, out7', v25 => f43_i101_9b (f43_i101_9 a0 N v20 k1 n) a0 N v20 k1 out7' v25
def Sf43_i101_9 : Ann := ⟨[0, 1, 7, 8, 19, 20, 24, 25], [102090007], [(.slot 7, 102090007, 73, 3)], []⟩
def Vf43_i101_9 (a0 : List (List Int)) (v20 : Int) (out7' : List Spot) (v25 : Int) : List SV := [.dat (sl_sl_iN a0), .dat (.v (.func (.func 77) #[] #[])), .rs 102090007 (List.length (out7')), .dat (iN v20), .dat (iN (List.length a0 : Int)), .dat (iN v20), .dat (iN (List.length a0 : Int)), .dat (iN v25)]
def Bf43_i101_9 (a0 : List (List Int)) (v20 : Int) (out7' : List Spot) (v25 : Int) : List Blk := [.row 73 3 (List.map Spot.d (out7'))]
def Yf43_i101_9 (a0 : List (List Int)) (v20 : Int) (y : Nat × (List Spot) × Int) : List SV := Vf43_i101_9 a0 v20 y.2.1 y.2.2
def Xf43_i101_9 (a0 : List (List Int)) (v20 : Int) (y : Nat × (List Spot) × Int) : List Blk := Bf43_i101_9 a0 v20 y.2.1 y.2.2
def Jf43_i101_9 (a0 : List (List Int)) (N : Nat) (v20 : Int) (k1 : (List Spot) → Option ((List Spot) × Int)) (r : (List Spot) × Int) (y : Nat × (List Spot) × Int) : Prop := f43_i101_9 a0 N v20 k1 y.1 y.2.1 y.2.2 = some r
def V2f43_i101_9 (a0 : List (List Int)) (v20 : Int) (out7' : List Spot) (v25 : Int) (m0 : Nat) : List SV := [.dat (sl_sl_iN a0), .dat (.v (.func (.func 77) #[] #[])), .rs 102090007 m0, .dat (iN v20), .dat (iN (List.length a0 : Int)), .dat (iN v20), .dat (iN (List.length a0 : Int)), .dat (iN v25)]
def B2f43_i101_9 (a0 : List (List Int)) (v20 : Int) (out7' : List Spot) (v25 : Int) (m0 : Nat) : List Blk := [.row 73 3 (List.map Spot.d (out7'))]
theorem Lf43_i101_9 {r : (List Spot) × Int} {a0 : List (List Int)} {N : Nat} {v20 : Int} {k1 : (List Spot) → Option ((List Spot) × Int)} {fu : Nat} {out7' : List Spot} {v25 : Int} {m0 : Nat} (hz : Sf43_i101_9.ok p = true) (h0 : AtH Sf43_i101_9 st (V2f43_i101_9 a0 v20 out7' v25 m0) (B2f43_i101_9 a0 v20 out7' v25 m0)) (em0 : m0 = List.length (out7')) (h : ∀ (n : Nat) (out7' : List Spot) (v25 : Int), f43_i101_9b (f43_i101_9 a0 N v20 k1 n) a0 N v20 k1 out7' v25 = some r → vc c p nid a (St.mk' Sf43_i101_9 (Vf43_i101_9 a0 v20 out7' v25) (Bf43_i101_9 a0 v20 out7' v25)) (Kloop Sf43_i101_9 (Yf43_i101_9 a0 v20) (Xf43_i101_9 a0 v20) (Jf43_i101_9 a0 N v20 k1 r) Prod.fst (n + 1, out7', v25) K)) (hF : f43_i101_9 a0 N v20 k1 fu out7' v25 = some r) : vc c p nid (.loop a) st K := by
  subst em0; refine vc_loop Sf43_i101_9 (Yf43_i101_9 a0 v20) (Xf43_i101_9 a0 v20) (Jf43_i101_9 a0 N v20 k1 r) Prod.fst hz (kheadL (x := (fu, out7', v25)) hF h0) ?_
  rintro ⟨_ | n, out7', v25⟩ hI
  · cases hI
  · exact h n out7' v25 hI
theorem Mf43_i101_9 {r : (List Spot) × Int} {a0 : List (List Int)} {N : Nat} {v20 : Int} {k1 : (List Spot) → Option ((List Spot) × Int)} {n : Nat} {out7' : List Spot} {v25 : Int} {out7'_ : List Spot} {v25_ : Int} {m0 : Nat} (hF : f43_i101_9 a0 N v20 k1 n out7' v25 = some r) (h0 : AtH Sf43_i101_9 st (V2f43_i101_9 a0 v20 out7' v25 m0) (B2f43_i101_9 a0 v20 out7' v25 m0)) (em0 : m0 = List.length (out7')) : Kloop Sf43_i101_9 (Yf43_i101_9 a0 v20) (Xf43_i101_9 a0 v20) (Jf43_i101_9 a0 N v20 k1 r) Prod.fst (n + 1, out7'_, v25_) K .normal st := by
  subst em0; exact kback (y := (n, out7', v25)) hF (Nat.lt_succ_self n) h0
def f43_i101_6b (r6 : (List Spot) → Int → Option ((List Spot) × Int)) (a0 : List (List Int)) (N : Nat) (k0 : (List Spot) → Option ((List Spot) × Int)) (out7 : List Spot) (v20 : Int) : Option ((List Spot) × Int) :=
 bif decide (v20 < (List.length a0 : Int)) then (joinK (f43_i101_c19 a0 v20 r6) fun k1 =>
 f43_i101_9 a0 N v20 k1 N out7 (0 : Int))
 else (k0 out7)
def f43_i101_6 (a0 : List (List Int)) (N : Nat) (k0 : (List Spot) → Option ((List Spot) × Int)) : Nat → (List Spot) → Int → Option ((List Spot) × Int)
  | 0, _, _ => none
  | n + 1, out7, v20 => f43_i101_6b (f43_i101_6 a0 N k0 n) a0 N k0 out7 v20
def Sf43_i101_6 : Ann := ⟨[0, 1, 7, 19, 20], [102090007], [(.slot 7, 102090007, 73, 3)], []⟩
def Vf43_i101_6 (a0 : List (List Int)) (out7 : List Spot) (v20 : Int) : List SV := [.dat (sl_sl_iN a0), .dat (.v (.func (.func 77) #[] #[])), .rs 102090007 (List.length out7), .dat (iN (List.length a0 : Int)), .dat (iN v20)]
def Bf43_i101_6 (a0 : List (List Int)) (out7 : List Spot) (v20 : Int) : List Blk := [.row 73 3 (List.map Spot.d out7)]
def Yf43_i101_6 (a0 : List (List Int)) (y : Nat × (List Spot) × Int) : List SV := Vf43_i101_6 a0 y.2.1 y.2.2
def Xf43_i101_6 (a0 : List (List Int)) (y : Nat × (List Spot) × Int) : List Blk := Bf43_i101_6 a0 y.2.1 y.2.2
def Jf43_i101_6 (a0 : List (List Int)) (N : Nat) (k0 : (List Spot) → Option ((List Spot) × Int)) (r : (List Spot) × Int) (y : Nat × (List Spot) × Int) : Prop := f43_i101_6 a0 N k0 y.1 y.2.1 y.2.2 = some r
def V2f43_i101_6 (a0 : List (List Int)) (out7 : List Spot) (v20 : Int) (m0 : Nat) : List SV := [.dat (sl_sl_iN a0), .dat (.v (.func (.func 77) #[] #[])), .rs 102090007 m0, .dat (iN (List.length a0 : Int)), .dat (iN v20)]
def B2f43_i101_6 (a0 : List (List Int)) (out7 : List Spot) (v20 : Int) (m0 : Nat) : List Blk := [.row 73 3 (List.map Spot.d out7)]
theorem Lf43_i101_6 {r : (List Spot) × Int} {a0 : List (List Int)} {N : Nat} {k0 : (List Spot) → Option ((List Spot) × Int)} {fu : Nat} {out7 : List Spot} {v20 : Int} {m0 : Nat} (hz : Sf43_i101_6.ok p = true) (h0 : AtH Sf43_i101_6 st (V2f43_i101_6 a0 out7 v20 m0) (B2f43_i101_6 a0 out7 v20 m0)) (em0 : m0 = List.length out7) (h : ∀ (n : Nat) (out7 : List Spot) (v20 : Int), f43_i101_6b (f43_i101_6 a0 N k0 n) a0 N k0 out7 v20 = some r → vc c p nid a (St.mk' Sf43_i101_6 (Vf43_i101_6 a0 out7 v20) (Bf43_i101_6 a0 out7 v20)) (Kloop Sf43_i101_6 (Yf43_i101_6 a0) (Xf43_i101_6 a0) (Jf43_i101_6 a0 N k0 r) Prod.fst (n + 1, out7, v20) K)) (hF : f43_i101_6 a0 N k0 fu out7 v20 = some r) : vc c p nid (.loop a) st K := by
  subst em0; refine vc_loop Sf43_i101_6 (Yf43_i101_6 a0) (Xf43_i101_6 a0) (Jf43_i101_6 a0 N k0 r) Prod.fst hz (kheadL (x := (fu, out7, v20)) hF h0) ?_
  rintro ⟨_ | n, out7, v20⟩ hI
  · cases hI
  · exact h n out7 v20 hI
theorem Mf43_i101_6 {r : (List Spot) × Int} {a0 : List (List Int)} {N : Nat} {k0 : (List Spot) → Option ((List Spot) × Int)} {n : Nat} {out7 : List Spot} {v20 : Int} {out7_ : List Spot} {v20_ : Int} {m0 : Nat} (hF : f43_i101_6 a0 N k0 n out7 v20 = some r) (h0 : AtH Sf43_i101_6 st (V2f43_i101_6 a0 out7 v20 m0) (B2f43_i101_6 a0 out7 v20 m0)) (em0 : m0 = List.length out7) : Kloop Sf43_i101_6 (Yf43_i101_6 a0) (Xf43_i101_6 a0) (Jf43_i101_6 a0 N k0 r) Prod.fst (n + 1, out7_, v20_) K .normal st := by
  subst em0; exact kback (y := (n, out7, v20)) hF (Nat.lt_succ_self n) h0
def f43 (N : Nat) (a0 : List (List Int)) : Option ((List Spot) × Int) :=
 (f49 N a0).bind fun x1 =>
 bif decide (¬ x1 = (0 : Int)) then (some ([], x1))
 else (joinK (f43_i101_c20 N) fun k0 =>
 f43_i101_6 a0 N k0 N [] (0 : Int))
def G43 (ds : List D) (d : D) : Prop := ∃ (N : Nat) (a0 : List (List Int)) (r : (List Spot) × Int), ds = [sl_sl_iN a0] ∧ f43 N a0 = some r ∧ d = .tup [sl_Spot r.1, iN r.2]
theorem G43.step {N : Nat} {a0 : List (List Int)} {ρ : Type} {A : ((List Spot) × Int) → Option ρ} {q : ρ} {ds : List D} {K : D → Prop} (hd : ds = [sl_sl_iN a0]) (h : ∀ r, A r = some q → K (.tup [sl_Spot r.1, iN r.2])) (hF : (f43 N a0).bind A = some q) : ∃ d, G43 ds d ∧ K d := by
  obtain ⟨r, hr, hA⟩ := bind_some hF
  exact ⟨_, ⟨N, a0, r, hd, hr, rfl⟩, h r hA⟩
set_option maxRecDepth 20000 in
set_option maxHeartbeats 4000000 in
theorem P43 : PureOK Try.prog 43 G43 := by
  refine pure_of_vc (c := mkCtx tyTree [(76, false, inlPg (mkCtx tyTree [(90, false, inlPg (mkCtx tyTree [(95, false, effPg Spf95 G95), (96, true, lendPg [[0]] G96)]) Try.f90), (77, true, purePg [[0], [0]] G77), (59, true, lendPg [[1], [0], [1]] G59), (49, true, lendPg [[1]] G49)]) Try.f76)]) rfl tyOK (ctx_eff (callable Try.func76 rfl rfl) (CallOK.inl rfl tyOK (ctx_eff (callable Try.func90 rfl rfl) (CallOK.inl rfl tyOK (ctx_eff (callable Try.func95 rfl rfl) P95 (ctx_lend (callable Try.func96 rfl rfl) P96 (ctx_nil))) Try.func90 (by kernel_rfl)) (ctx_cons (callable Try.func77 rfl rfl) P77 (ctx_lend (callable Try.func59 rfl rfl) P59 (ctx_lend (callable Try.func49 rfl rfl) P49 (ctx_nil))))) Try.func76 (by kernel_rfl)) (ctx_nil)) [[3], [0]] 1 Try.func43 rfl rfl (by decide) (by kernel_rfl) ?_
  rintro ds d ⟨N, a0, r, rfl, hF, rfl⟩ hok
  clear hok
  refine ⟨rfl, ?_⟩
  show vc _ _ _ _ ⟨[(0, .dat (sl_sl_iN a0))], []⟩ _
  unfold f43 at hF
  repeat' (first
    | ((with_reducible refine q0 _ _ ?_); clear Q q0 q1 q2)
    | ((with_reducible refine q1 _ _ _ _ ?_); clear Q q0 q1 q2)
    | ((with_reducible refine q2 _ _ _ ?_); clear Q q0 q1 q2)
    | ((with_reducible refine seq_op ?hx (fun Q q0 q1 q2 => ?_)); (case hx => exact rfl); conv => whnf)
    | ((with_reducible refine cond_id ?_); (first | ((refine condKT rfl ?hy ?_); (case hy => first | assumption | exact notT (by assumption) | exact rfl)) | ((refine condKF rfl ?hy ?_); (case hy => first | assumption | exact notF (by assumption) | exact rfl)) | (revert hF; (with_reducible refine condF ?hx ?_ ?_); (case hx => exact rfl); all_goals (intro hc hF))))
    | ((with_reducible refine seq_nil ?_); (first | ((with_reducible refine hR _ ?_); clear R hR) | ((with_reducible refine hL _ ?_); clear L hL)))
    | ((with_reducible refine int_step ?_); conv => whnf)
    | ((with_reducible refine len_step ?_); conv => whnf)
    | with_reducible refine vc_block ?_
    | with_reducible refine vc_skip ?_
    | with_reducible refine vc_ret ?_
    | with_reducible refine vc_exit ?_
    | ((with_reducible refine vc_seqN [102000000020, 102000000019, 102000000018] ?hx ?_); (case hx => exact rfl))
    | (with_reducible refine vc_region (fun R hR => ?_))
    | fail
    | (revert hF; (refine Cf43_i101_c20 rfl rfl ?_ ?_); (intro hF); rotate_left; (intro out7 hF; unfold f43_i101_c20 at hF); rotate_right)
    | exact Zf43_i101_c20 hF ⟨_, rfl, rfl, rfl, rfl⟩ (by first | exact rfl | assumption | omega)
    | (revert hF; (refine Cf43_i101_c19 rfl rfl ?_ ?_); (intro hF); rotate_left; (intro out7' hF; unfold f43_i101_c19 at hF); rotate_right)
    | exact Zf43_i101_c19 hF ⟨_, rfl, rfl, rfl, rfl⟩ (by first | exact rfl | assumption | omega)
    | (revert hF; (refine Cf43_i101_c18 rfl rfl ?_ ?_); (intro hF); rotate_left; (intro out7'' hF; unfold f43_i101_c18 at hF); rotate_right)
    | exact Zf43_i101_c18 hF ⟨_, rfl, rfl, rfl, rfl⟩ (by first | exact rfl | assumption | omega)
    | (revert hF; (refine Lf43_i101_12 rfl ⟨_, rfl, rfl, rfl, rfl⟩ (by first | exact rfl | assumption | omega) ?_); intro n out7'' v29 hF; unfold f43_i101_12b at hF)
    | exact Mf43_i101_12 hF ⟨_, rfl, rfl, rfl, rfl⟩ (by first | exact rfl | assumption | omega)
    | (revert hF; (refine Lf43_i101_9 rfl ⟨_, rfl, rfl, rfl, rfl⟩ (by first | exact rfl | assumption | omega) ?_); intro n out7' v25 hF; unfold f43_i101_9b at hF)
    | exact Mf43_i101_9 hF ⟨_, rfl, rfl, rfl, rfl⟩ (by first | exact rfl | assumption | omega)
    | (revert hF; (refine Lf43_i101_6 rfl ⟨_, rfl, rfl, rfl, rfl⟩ (by first | exact rfl | assumption | omega) ?_); intro n out7 v20 hF; unfold f43_i101_6b at hF)
    | exact Mf43_i101_6 hF ⟨_, rfl, rfl, rfl, rfl⟩ (by first | exact rfl | assumption | omega)
    | (revert hF; (with_reducible refine G49.lend ?hx ?_); (case hx => exact rfl); intro v hF; conv => whnf)
    | (revert hF; (with_reducible refine G59.lend ?hx ?_); (case hx => exact rfl); intro v hF; conv => whnf)
    | (revert hF; (with_reducible refine G77.step ?hx ?_); (case hx => exact rfl); intro v hF; conv => whnf)
    | (revert hF; (with_reducible refine G96.lend ?hx ?_); (case hx => exact rfl); intro v hF; conv => whnf)
    | (revert hF; (refine G95.step rfl rfl (by first | exact rfl | assumption | omega) rfl ?hn ?_); (case hn => exact rfl); intro v hF; conv => whnf)
    | ((with_reducible have hG := keep_fact hF); have hk := hG.1; have hF := hG.2; clear hG)
    | with_reducible refine k_seq_ret ?_
    | with_reducible refine k_seq_exit ?_
    | with_reducible refine k_blk ?_
    | with_reducible refine k_blk_ret ?_
    | with_reducible refine k_blk_here ?_
    | ((with_reducible refine k_blk_out ?hx ?_); (case hx => exact rfl))
    | with_reducible refine k_loop_ret ?_
    | with_reducible refine k_loop_exit ?_
    | ((with_reducible have hG := app_fact hF); clear hF; (first | ((refine app_row hG ?hn ?hs (fun q hF => ?_)); (case hn => first | exact rfl | assumption | omega); (case hs => exact rfl)) | ((refine app_nil (d := Spot.d) hG ?hs (fun q hF => ?_)); (case hs => exact rfl)) | ((refine app_gen (d := Spot.d) hG ?ho ?hn ?hs (fun q hF => ?_)); (case ho => exact rfl); (case hn => exact rfl); (case hs => exact rfl))); clear hG; conv => whnf)
    | ((refine row_all ?hn ?_); (case hn => first | exact rfl | (simp; done) | (simp; omega)); conv => whnf)
    | ((with_reducible refine le_step ?hn ?_); (case hn => first | exact rfl | assumption | omega); conv => whnf)
    | ((refine ⟨?hx, ?_⟩); (case hx => exact ⟨rfl, Nat.le_of_ble_eq_true rfl, rfl⟩); conv => whnf)
    | ((with_reducible refine ex_step ?_); conv => whnf)
    | ((with_reducible refine both_T ?hx ?_); (case hx => first | exact rfl | assumption | exact notT (by assumption)); conv => whnf)
    | ((with_reducible refine both_F ?hx ?_); (case hx => first | exact rfl | assumption | exact notF (by assumption)); conv => whnf)
    | (revert hF; (with_reducible refine ite_step ?_ ?_) <;> (intro hc hF; conv => whnf))
    | ((with_reducible refine vc_condT ?hx ?_); (case hx => exact rfl))
    | ((with_reducible refine vc_condF ?hx ?_); (case hx => exact rfl))
    | (show retD _ _ _ _ _ _; conv => whnf)
    | ((refine inl_step ?ha ?hb ?hc rfl ?_); (case ha => exact rfl); (case hb => omega); (case hc => exact Nat.le_of_ble_eq_true rfl))
    | (show Kinl _ _ _ _ _ _ _; conv => whnf)
    | ((with_reducible refine kinl_step ?ha ?hb ?_); (case ha => exact rfl); (case hb => exact rfl); conv => whnf)
    | ((refine ⟨?hx, trivial⟩); (case hx => (cases hF; exact rfl)))
    | ((refine ⟨?hx, ?_⟩); (case hx => decide); conv => whnf)
    | ((with_reducible refine k_seq ?_))
    | (have hF : (none : Option _) = some _ := hF; cases hF))
end
end Go.Vc
namespace Go.Vc
open Go.Proofs
set_option linter.unusedVariables false
set_option linter.unnecessarySimpa false
set_option linter.unusedSimpArgs false
section
variable {c : Ctx} {p nid : Nat} {a b : Code} {st : St} {K : Ex → St → Prop}
/- f47: tusche/tuschelaw01.tables -/
def f47_c8 : Option (Bool) :=
 some (true)
def Sf47_c8 : Ann := ⟨[], [], [], []⟩
def Vf47_c8 : List SV := []
def Bf47_c8 : List Blk := []
def Yf47_c8 (y : Unit) : List SV := Vf47_c8
def Xf47_c8 (y : Unit) : List Blk := Bf47_c8
def Jf47_c8 (r : Bool) (y : Unit) : Prop := f47_c8 = some r
theorem Cf47_c8 {r : Bool} {g : _ → Option (Bool)} (hn : Nat.beq (nid * 1000 + firstRegion b) 8 = true) (hz : Sf47_c8.ok p = true) (h : g f47_c8 = some r → vc c p nid a st (KHead Sf47_c8 Yf47_c8 Xf47_c8 (Jf47_c8 r) K)) (h2 : ∀ (_ : Unit), f47_c8 = some r → vc c p nid b (St.mk' Sf47_c8 Vf47_c8 Bf47_c8) K) (hF : joinK f47_c8 g = some r) : vc c p nid (.seq a b) st K :=
  vc_cut Sf47_c8 Yf47_c8 Xf47_c8 (Jf47_c8 r) hz (h hF) fun y hy => h2 () hy
theorem Zf47_c8 {r : Bool} (hF : f47_c8 = some r) (h0 : AtH Sf47_c8 st Vf47_c8 Bf47_c8) : KHead Sf47_c8 Yf47_c8 Xf47_c8 (Jf47_c8 r) K .normal st := by
  exact khead (I := (Jf47_c8 r)) (x := ()) hF h0
def f47_4b (r4 : Int → Option (Bool)) (a0 : List (List Int)) (a1 : List (List Int)) (N : Nat) (k0 : Option (Bool)) (i5 : Int) : Option (Bool) :=
 bif decide (i5 < (List.length a0 : Int)) then ((ix a0 i5).bind fun x1 =>
 (ix a1 i5).bind fun x2 =>
 (f34 N x1 x2).bind fun x3 =>
 bif !x3 then (some (false))
 else (r4 (W (i5 + (1 : Int)))))
 else k0
def f47_4 (a0 : List (List Int)) (a1 : List (List Int)) (N : Nat) (k0 : Option (Bool)) : Nat → Int → Option (Bool)
  | 0, _ => none
  | n + 1, i5 => f47_4b (f47_4 a0 a1 N k0 n) a0 a1 N k0 i5
def Sf47_4 : Ann := ⟨[0, 1, 5], [], [], []⟩
def Vf47_4 (a0 : List (List Int)) (a1 : List (List Int)) (i5 : Int) : List SV := [.dat (sl_sl_iN a0), .dat (sl_sl_iN a1), .dat (iN i5)]
def Bf47_4 (a0 : List (List Int)) (a1 : List (List Int)) (i5 : Int) : List Blk := []
def Yf47_4 (a0 : List (List Int)) (a1 : List (List Int)) (y : Nat × Int) : List SV := Vf47_4 a0 a1 y.2
def Xf47_4 (a0 : List (List Int)) (a1 : List (List Int)) (y : Nat × Int) : List Blk := Bf47_4 a0 a1 y.2
def Jf47_4 (a0 : List (List Int)) (a1 : List (List Int)) (N : Nat) (k0 : Option (Bool)) (r : Bool) (y : Nat × Int) : Prop := f47_4 a0 a1 N k0 y.1 y.2 = some r
theorem Lf47_4 {r : Bool} {a0 : List (List Int)} {a1 : List (List Int)} {N : Nat} {k0 : Option (Bool)} {fu : Nat} {i5 : Int} (hz : Sf47_4.ok p = true) (h0 : AtH Sf47_4 st (Vf47_4 a0 a1 i5) (Bf47_4 a0 a1 i5)) (h : ∀ (n : Nat) (i5 : Int), f47_4b (f47_4 a0 a1 N k0 n) a0 a1 N k0 i5 = some r → vc c p nid a (St.mk' Sf47_4 (Vf47_4 a0 a1 i5) (Bf47_4 a0 a1 i5)) (Kloop Sf47_4 (Yf47_4 a0 a1) (Xf47_4 a0 a1) (Jf47_4 a0 a1 N k0 r) Prod.fst (n + 1, i5) K)) (hF : f47_4 a0 a1 N k0 fu i5 = some r) : vc c p nid (.loop a) st K := by
  refine vc_loop Sf47_4 (Yf47_4 a0 a1) (Xf47_4 a0 a1) (Jf47_4 a0 a1 N k0 r) Prod.fst hz (kheadL (x := (fu, i5)) hF h0) ?_
  rintro ⟨_ | n, i5⟩ hI
  · cases hI
  · exact h n i5 hI
theorem Mf47_4 {r : Bool} {a0 : List (List Int)} {a1 : List (List Int)} {N : Nat} {k0 : Option (Bool)} {n : Nat} {i5 : Int} {i5_ : Int} (hF : f47_4 a0 a1 N k0 n i5 = some r) (h0 : AtH Sf47_4 st (Vf47_4 a0 a1 i5) (Bf47_4 a0 a1 i5)) : Kloop Sf47_4 (Yf47_4 a0 a1) (Xf47_4 a0 a1) (Jf47_4 a0 a1 N k0 r) Prod.fst (n + 1, i5_) K .normal st := by
  exact kback (y := (n, i5)) hF (Nat.lt_succ_self n) h0
def f47 (N : Nat) (a0 : List (List Int)) (a1 : List (List Int)) : Option (Bool) :=
 bif decide (¬ (List.length a0 : Int) = (List.length a1 : Int)) then (some (false))
 else (joinK f47_c8 fun k0 =>
 f47_4 a0 a1 N k0 N (0 : Int))
def G47 (ds : List D) (d : D) : Prop := ∃ (N : Nat) (a0 : List (List Int)) (a1 : List (List Int)) (r : Bool), ds = [sl_sl_iN a0, sl_sl_iN a1] ∧ f47 N a0 a1 = some r ∧ d = bN r
theorem G47.lend {N : Nat} {a0 : List (List Int)} {a1 : List (List Int)} {ρ : Type} {A : Bool → Option ρ} {q : ρ} {ds : List D} {K : D → Prop} (hd : ds = [sl_sl_iN a0, sl_sl_iN a1]) (h : ∀ r, A r = some q → K (bN r)) (hF : (f47 N a0 a1).bind A = some q) : ∃ d, (G47 ds d ∧ d.flatB = true) ∧ K d := by
  obtain ⟨r, hr, hA⟩ := bind_some hF
  exact ⟨_, ⟨⟨N, a0, a1, r, hd, hr, rfl⟩, rfl⟩, h r hA⟩
theorem G47.step {N : Nat} {a0 : List (List Int)} {a1 : List (List Int)} {ρ : Type} {A : Bool → Option ρ} {q : ρ} {ds : List D} {K : D → Prop} (hd : ds = [sl_sl_iN a0, sl_sl_iN a1]) (h : ∀ r, A r = some q → K (bN r)) (hF : (f47 N a0 a1).bind A = some q) : ∃ d, G47 ds d ∧ K d := by
  obtain ⟨r, hr, hA⟩ := bind_some hF
  exact ⟨_, ⟨N, a0, a1, r, hd, hr, rfl⟩, h r hA⟩
set_option maxRecDepth 20000 in
set_option maxHeartbeats 4000000 in
theorem P47 : PureOK Try.prog 47 G47 := by
  refine pure_of_vc (c := mkCtx tyTree [(34, true, lendPg [[1], [1]] G34)]) rfl tyOK (ctx_lend (callable Try.func34 rfl rfl) P34 (ctx_nil)) [[0]] 2 Try.func47 rfl rfl (by decide) (by kernel_rfl) ?_
  rintro ds d ⟨N, a0, a1, r, rfl, hF, rfl⟩ hok
  clear hok
  refine ⟨rfl, ?_⟩
  show vc _ _ _ _ ⟨[(0, .dat (sl_sl_iN a0)), (1, .dat (sl_sl_iN a1))], []⟩ _
  unfold f47 at hF
  repeat' (first
    | ((with_reducible refine q0 _ _ ?_); clear Q q0 q1 q2)
    | ((with_reducible refine q1 _ _ _ _ ?_); clear Q q0 q1 q2)
    | ((with_reducible refine q2 _ _ _ ?_); clear Q q0 q1 q2)
    | ((with_reducible refine seq_op ?hx (fun Q q0 q1 q2 => ?_)); (case hx => exact rfl); conv => whnf)
    | ((with_reducible refine draw_op ?hx (fun Q q0 q1 q2 => ?_)); (case hx => exact rfl); conv => whnf)
    | ((with_reducible refine cond_id ?_); (first | ((refine condKT rfl ?hy ?_); (case hy => first | assumption | exact notT (by assumption) | exact rfl)) | ((refine condKF rfl ?hy ?_); (case hy => first | assumption | exact notF (by assumption) | exact rfl)) | (revert hF; (with_reducible refine condF ?hx ?_ ?_); (case hx => exact rfl); all_goals (intro hc hF))))
    | ((with_reducible refine seq_nil ?_); (first | ((with_reducible refine hR _ ?_); clear R hR) | ((with_reducible refine hL _ ?_); clear L hL)))
    | ((with_reducible refine draw_nil ?_); (with_reducible refine hR _ _ ?hx ?_); (case hx => kernel_rfl); (first | clear R hR | clear hR))
    | ((with_reducible refine int_step ?_); conv => whnf)
    | ((with_reducible refine len_step ?_); conv => whnf)
    | ((with_reducible refine idx2 (by assumption) ?_); conv => whnf)
    | ((with_reducible refine idx3 (by assumption) ?_); conv => whnf)
    | with_reducible refine vc_block ?_
    | with_reducible refine vc_skip ?_
    | with_reducible refine vc_ret ?_
    | with_reducible refine vc_exit ?_
    | ((with_reducible refine vc_seqN [8] ?hx ?_); (case hx => exact rfl))
    | (with_reducible refine vc_region (fun R hR => ?_))
    | ((with_reducible refine vc_draw ?hx (fun R hR => ?_)); (case hx => exact rfl))
    | fail
    | (revert hF; (refine Cf47_c8 rfl rfl ?_ ?_); (intro hF); rotate_left; (intro _ hF; unfold f47_c8 at hF); rotate_right)
    | exact Zf47_c8 hF ⟨_, rfl, rfl, rfl, rfl⟩
    | (revert hF; (refine Lf47_4 rfl ⟨_, rfl, rfl, rfl, rfl⟩ ?_); intro n i5 hF; unfold f47_4b at hF)
    | exact Mf47_4 hF ⟨_, rfl, rfl, rfl, rfl⟩
    | (revert hF; (with_reducible refine G34.lend ?hx ?_); (case hx => exact rfl); intro v hF; conv => whnf)
    | with_reducible refine k_seq_ret ?_
    | with_reducible refine k_seq_exit ?_
    | with_reducible refine k_blk ?_
    | with_reducible refine k_blk_ret ?_
    | with_reducible refine k_blk_here ?_
    | ((with_reducible refine k_blk_out ?hx ?_); (case hx => exact rfl))
    | with_reducible refine k_loop_ret ?_
    | with_reducible refine k_loop_exit ?_
    | (revert hF; (with_reducible refine idx1 ?hn ?_); (case hn => first | exact rfl | exact (List.length_map _) | assumption | omega | simp); intro x hx hF; conv => whnf)
    | ((refine row_all ?hn ?_); (case hn => first | exact rfl | (simp; done) | (simp; omega)); conv => whnf)
    | ((with_reducible refine le_step ?hn ?_); (case hn => first | exact rfl | assumption | omega); conv => whnf)
    | ((refine ⟨?hx, ?_⟩); (case hx => exact ⟨rfl, Nat.le_of_ble_eq_true rfl, rfl⟩); conv => whnf)
    | ((with_reducible refine ex_step ?_); conv => whnf)
    | ((with_reducible refine both_T ?hx ?_); (case hx => first | exact rfl | assumption | exact notT (by assumption)); conv => whnf)
    | ((with_reducible refine both_F ?hx ?_); (case hx => first | exact rfl | assumption | exact notF (by assumption)); conv => whnf)
    | (revert hF; (with_reducible refine ite_step ?_ ?_) <;> (intro hc hF; conv => whnf))
    | ((with_reducible refine vc_condT ?hx ?_); (case hx => exact rfl))
    | ((with_reducible refine vc_condF ?hx ?_); (case hx => exact rfl))
    | (show retD _ _ _ _ _ _; conv => whnf)
    | ((refine ⟨?hx, trivial⟩); (case hx => (cases hF; exact rfl)))
    | ((refine ⟨?hx, ?_⟩); (case hx => decide); conv => whnf)
    | ((with_reducible refine k_seq ?_))
    | (have hF : (none : Option _) = some _ := hF; cases hF))
end
end Go.Vc
namespace Go.Vc
open Go.Proofs
set_option linter.unusedVariables false
set_option linter.unnecessarySimpa false
set_option linter.unusedSimpArgs false
section
variable {c : Ctx} {p nid : Nat} {a b : Code} {st : St} {K : Ex → St → Prop}
/- f55: tusche/tuschelaw01.T -/
def f55 (N : Nat) : Option ((List (List Int))) :=
 some ([[(0 : Int), (1 : Int), (2 : Int), (3 : Int), (4 : Int)], [(2 : Int), (3 : Int), (4 : Int), (0 : Int), (1 : Int)], [(4 : Int), (0 : Int), (1 : Int), (2 : Int), (3 : Int)], [(1 : Int), (2 : Int), (3 : Int), (4 : Int), (0 : Int)], [(3 : Int), (4 : Int), (0 : Int), (1 : Int), (2 : Int)]])
def G55 (ds : List D) (d : D) : Prop := ∃ (N : Nat) (r : (List (List Int))), ds = [] ∧ f55 N  = some r ∧ d = sl_sl_iN r
theorem G55.step {N : Nat} {ρ : Type} {A : (List (List Int)) → Option ρ} {q : ρ} {ds : List D} {K : D → Prop} (hd : ds = []) (h : ∀ r, A r = some q → K (sl_sl_iN r)) (hF : (f55 N ).bind A = some q) : ∃ d, G55 ds d ∧ K d := by
  obtain ⟨r, hr, hA⟩ := bind_some hF
  exact ⟨_, ⟨N, r, hd, hr, rfl⟩, h r hA⟩
set_option maxRecDepth 20000 in
set_option maxHeartbeats 4000000 in
theorem P55 : PureOK Try.prog 55 G55 := by
  refine pure_of_vc (c := mkCtx tyTree []) rfl tyOK (ctx_nil) [[1]] 0 Try.func55 rfl rfl (by decide) (by kernel_rfl) ?_
  rintro ds d ⟨N, r, rfl, hF, rfl⟩ hok
  clear hok
  refine ⟨rfl, ?_⟩
  show vc _ _ _ _ ⟨[], []⟩ _
  unfold f55 at hF
  repeat' (first
    | ((with_reducible refine q0 _ _ ?_); clear Q q0 q1 q2)
    | ((with_reducible refine q1 _ _ _ _ ?_); clear Q q0 q1 q2)
    | ((with_reducible refine q2 _ _ _ ?_); clear Q q0 q1 q2)
    | ((with_reducible refine seq_op ?hx (fun Q q0 q1 q2 => ?_)); (case hx => exact rfl); conv => whnf)
    | ((with_reducible refine seq_nil ?_); (first | ((with_reducible refine hR _ ?_); clear R hR) | ((with_reducible refine hL _ ?_); clear L hL)))
    | ((with_reducible refine int_step ?_); conv => whnf)
    | with_reducible refine vc_skip ?_
    | with_reducible refine vc_ret ?_
    | ((with_reducible refine vc_seqN [] ?hx ?_); (case hx => exact rfl))
    | (with_reducible refine vc_region (fun R hR => ?_))
    | fail
    | with_reducible refine k_seq_ret ?_
    | ((refine row_all ?hn ?_); (case hn => first | exact rfl | (simp; done) | (simp; omega)); conv => whnf)
    | ((with_reducible refine le_step ?hn ?_); (case hn => first | exact rfl | assumption | omega); conv => whnf)
    | ((refine ⟨?hx, ?_⟩); (case hx => exact ⟨rfl, Nat.le_of_ble_eq_true rfl, rfl⟩); conv => whnf)
    | ((with_reducible refine ex_step ?_); conv => whnf)
    | ((with_reducible refine both_T ?hx ?_); (case hx => first | exact rfl | assumption | exact notT (by assumption)); conv => whnf)
    | ((with_reducible refine both_F ?hx ?_); (case hx => first | exact rfl | assumption | exact notF (by assumption)); conv => whnf)
    | (revert hF; (with_reducible refine ite_step ?_ ?_) <;> (intro hc hF; conv => whnf))
    | (show retD _ _ _ _ _ _; conv => whnf)
    | ((refine ⟨?hx, trivial⟩); (case hx => (cases hF; exact rfl)))
    | ((refine ⟨?hx, ?_⟩); (case hx => decide); conv => whnf)
    | ((with_reducible refine k_seq ?_))
    | (have hF : (none : Option _) = some _ := hF; cases hF))
end
end Go.Vc
namespace Go.Vc
open Go.Proofs
set_option linter.unusedVariables false
set_option linter.unnecessarySimpa false
set_option linter.unusedSimpArgs false
section
variable {c : Ctx} {p nid : Nat} {a b : Code} {st : St} {K : Ex → St → Prop}
/- f56: tusche/tuschelaw01.list -/
def f56 (N : Nat) (a0 : List Int) : Option ((List Int)) :=
 some (a0)
def G56 (ds : List D) (d : D) : Prop := ∃ (N : Nat) (a0 : List Int) (r : (List Int)), ds = [sl_iN a0] ∧ f56 N a0 = some r ∧ d = sl_iN r
theorem G56.step {N : Nat} {a0 : List Int} {ρ : Type} {A : (List Int) → Option ρ} {q : ρ} {ds : List D} {K : D → Prop} (hd : ds = [sl_iN a0]) (h : ∀ r, A r = some q → K (sl_iN r)) (hF : (f56 N a0).bind A = some q) : ∃ d, G56 ds d ∧ K d := by
  obtain ⟨r, hr, hA⟩ := bind_some hF
  exact ⟨_, ⟨N, a0, r, hd, hr, rfl⟩, h r hA⟩
set_option maxRecDepth 20000 in
set_option maxHeartbeats 4000000 in
theorem P56 : PureOK Try.prog 56 G56 := by
  refine pure_of_vc (c := mkCtx tyTree []) rfl tyOK (ctx_nil) [[1]] 1 Try.func56 rfl rfl (by decide) (by kernel_rfl) ?_
  rintro ds d ⟨N, a0, r, rfl, hF, rfl⟩ hok
  clear hok
  refine ⟨rfl, ?_⟩
  show vc _ _ _ _ ⟨[(0, .dat (sl_iN a0))], []⟩ _
  unfold f56 at hF
  repeat' (first
    | ((with_reducible refine q0 _ _ ?_); clear Q q0 q1 q2)
    | ((with_reducible refine q1 _ _ _ _ ?_); clear Q q0 q1 q2)
    | ((with_reducible refine q2 _ _ _ ?_); clear Q q0 q1 q2)
    | ((with_reducible refine seq_op ?hx (fun Q q0 q1 q2 => ?_)); (case hx => exact rfl); conv => whnf)
    | ((with_reducible refine seq_nil ?_); (first | ((with_reducible refine hR _ ?_); clear R hR) | ((with_reducible refine hL _ ?_); clear L hL)))
    | ((with_reducible refine int_step ?_); conv => whnf)
    | with_reducible refine vc_skip ?_
    | with_reducible refine vc_ret ?_
    | ((with_reducible refine vc_seqN [] ?hx ?_); (case hx => exact rfl))
    | (with_reducible refine vc_region (fun R hR => ?_))
    | fail
    | with_reducible refine k_seq_ret ?_
    | ((refine row_all ?hn ?_); (case hn => first | exact rfl | (simp; done) | (simp; omega)); conv => whnf)
    | ((with_reducible refine le_step ?hn ?_); (case hn => first | exact rfl | assumption | omega); conv => whnf)
    | ((refine ⟨?hx, ?_⟩); (case hx => exact ⟨rfl, Nat.le_of_ble_eq_true rfl, rfl⟩); conv => whnf)
    | ((with_reducible refine ex_step ?_); conv => whnf)
    | ((with_reducible refine both_T ?hx ?_); (case hx => first | exact rfl | assumption | exact notT (by assumption)); conv => whnf)
    | ((with_reducible refine both_F ?hx ?_); (case hx => first | exact rfl | assumption | exact notF (by assumption)); conv => whnf)
    | (revert hF; (with_reducible refine ite_step ?_ ?_) <;> (intro hc hF; conv => whnf))
    | (show retD _ _ _ _ _ _; conv => whnf)
    | ((refine ⟨?hx, trivial⟩); (case hx => (cases hF; exact rfl)))
    | ((refine ⟨?hx, ?_⟩); (case hx => decide); conv => whnf)
    | ((with_reducible refine k_seq ?_))
    | (have hF : (none : Option _) = some _ := hF; cases hF))
end
end Go.Vc
namespace Go.Vc
open Go.Proofs
set_option linter.unusedVariables false
set_option linter.unnecessarySimpa false
set_option linter.unusedSimpArgs false
section
variable {c : Ctx} {p nid : Nat} {a b : Code} {st : St} {K : Ex → St → Prop}
/- f15: tusche/tuschelaw01.works -/
def f15 (N : Nat) : Option (Bool) :=
 (f41 N (5 : Int) (2 : Int)).bind fun x1 =>
 (f55 N ).bind fun x2 =>
 (f56 N [(1 : Int), (2 : Int)]).bind fun x3 =>
 (f21 N x2 x3).bind fun x4 =>
 (f55 N ).bind fun x5 =>
 (f56 N [(3 : Int)]).bind fun x6 =>
 (f23 N x5 x6).bind fun x7 =>
 (f55 N ).bind fun x8 =>
 (f43 N x8).bind fun x9 =>
 (f55 N ).bind fun x10 =>
 (f56 N [(1 : Int), (2 : Int), (3 : Int)]).bind fun x11 =>
 (f29 N x10 x11).bind fun x12 =>
 (f55 N ).bind fun x13 =>
 (f56 N [(2 : Int), (1 : Int), (2 : Int)]).bind fun x14 =>
 (f31 N x13 x14).bind fun x15 =>
 (f55 N ).bind fun x16 =>
 (f56 N [(1 : Int), (2 : Int), (2 : Int)]).bind fun x17 =>
 (f25 N x16 x17 (0 : Int)).bind fun x18 =>
 (f55 N ).bind fun x19 =>
 (f35 N x19 (3 : Int) (7 : Int)).bind fun x20 =>
 (f16 N (strC [55, 48])).bind fun x21 =>
 bif decide (¬ x1.2 = (0 : Int)) then (some (false))
 else (bif decide (¬ x4.2 = (0 : Int)) then (some (false))
 else (bif decide (¬ x7.2 = (0 : Int)) then (some (false))
 else (bif decide (¬ x9.2 = (0 : Int)) then (some (false))
 else (bif decide (¬ x12.2 = (0 : Int)) then (some (false))
 else (bif decide (¬ x15.2 = (0 : Int)) then (some (false))
 else (bif decide (¬ x18.2 = (0 : Int)) then (some (false))
 else (bif decide (¬ x20.2 = (0 : Int)) then (some (false))
 else (bif !x21.2 then (some (false))
 else ((f55 N ).bind fun x22 =>
 (f56 N [(1 : Int), (2 : Int), (2 : Int)]).bind fun x23 =>
 (f37 N x22 x23).bind fun x24 =>
 bif decide (x24.2 = (0 : Int)) then ((f55 N ).bind fun x25 =>
 (f47 N x1.1 x25).bind fun x26 =>
 bif x26 then (bif decide (x4.1 = (4 : Int)) then (bif decide (x7.1 = (4 : Int)) then (bif decide ((List.length x9.1 : Int) = (0 : Int)) then ((f33 N x12.1 [(Fix.mk (0 : Int) (2 : Int)), (Fix.mk (1 : Int) (4 : Int)), (Fix.mk (2 : Int) (2 : Int))]).bind fun x27 =>
 bif x27 then ((f56 N [(0 : Int)]).bind fun x28 =>
 (f34 N x15.1 x28).bind fun x29 =>
 bif x29 then (bif decide (x18.1 = (1 : Int)) then ((f56 N [(1 : Int), (2 : Int), (2 : Int)]).bind fun x30 =>
 (f34 N x20.1 x30).bind fun x31 =>
 bif x31 then (bif decide (x24.1 = (7 : Int)) then (bif decide (x21.1 = (70 : Int)) then ((f55 N ).bind fun x32 =>
 (f56 N [(1 : Int), (2 : Int), (2 : Int)]).bind fun x33 =>
 (f27 N x32 x33).bind fun x34 =>
 bif decide (x34 = (0 : Int)) then ((f55 N ).bind fun x35 =>
 (f56 N [(1 : Int), (2 : Int), (3 : Int)]).bind fun x36 =>
 (f27 N x35 x36).bind fun x37 =>
 bif decide (x37 = (13 : Int)) then ((f18 N (strC [115, 116, 111, 110, 101])).bind fun x38 =>
 bif x38 then ((f18 N (strC [83, 116, 111, 110, 101])).bind fun x39 =>
 some (!x39))
 else (some (false)))
 else (some (false)))
 else (some (false)))
 else (some (false)))
 else (some (false)))
 else (some (false)))
 else (some (false)))
 else (some (false)))
 else (some (false)))
 else (some (false)))
 else (some (false)))
 else (some (false)))
 else (some (false)))
 else (some (false)))))))))))
def G15 (ds : List D) (d : D) : Prop := ∃ (N : Nat) (r : Bool), ds = [] ∧ f15 N  = some r ∧ d = bN r
theorem G15.lend {N : Nat} {ρ : Type} {A : Bool → Option ρ} {q : ρ} {ds : List D} {K : D → Prop} (hd : ds = []) (h : ∀ r, A r = some q → K (bN r)) (hF : (f15 N ).bind A = some q) : ∃ d, (G15 ds d ∧ d.flatB = true) ∧ K d := by
  obtain ⟨r, hr, hA⟩ := bind_some hF
  exact ⟨_, ⟨⟨N, r, hd, hr, rfl⟩, rfl⟩, h r hA⟩
theorem G15.step {N : Nat} {ρ : Type} {A : Bool → Option ρ} {q : ρ} {ds : List D} {K : D → Prop} (hd : ds = []) (h : ∀ r, A r = some q → K (bN r)) (hF : (f15 N ).bind A = some q) : ∃ d, G15 ds d ∧ K d := by
  obtain ⟨r, hr, hA⟩ := bind_some hF
  exact ⟨_, ⟨N, r, hd, hr, rfl⟩, h r hA⟩
set_option maxRecDepth 20000 in
set_option maxHeartbeats 4000000 in
theorem P15 : PureOK Try.prog 15 G15 := by
  refine pure_of_vc (c := mkCtx tyTree [(56, true, purePg [[1]] G56), (55, true, purePg [] G55), (47, true, lendPg [[1], [1]] G47), (43, true, purePg [[1]] G43), (41, true, purePg [[0], [0]] G41), (37, true, lendPg [[1], [1]] G37), (35, true, purePg [[1], [0], [0]] G35), (34, true, lendPg [[1], [1]] G34), (33, true, lendPg [[2], [2]] G33), (31, true, purePg [[1], [1]] G31), (29, true, purePg [[1], [1]] G29), (27, true, lendPg [[1], [1]] G27), (25, true, lendPg [[1], [1], [0]] G25), (23, true, lendPg [[1], [1]] G23), (21, true, lendPg [[1], [1]] G21), (18, true, lendPg [[0]] G18), (16, true, lendPg [[0]] G16)]) rfl tyOK (ctx_cons (callable Try.func56 rfl rfl) P56 (ctx_cons (callable Try.func55 rfl rfl) P55 (ctx_lend (callable Try.func47 rfl rfl) P47 (ctx_cons (callable Try.func43 rfl rfl) P43 (ctx_cons (callable Try.func41 rfl rfl) P41 (ctx_lend (callable Try.func37 rfl rfl) P37 (ctx_cons (callable Try.func35 rfl rfl) P35 (ctx_lend (callable Try.func34 rfl rfl) P34 (ctx_lend (callable Try.func33 rfl rfl) P33 (ctx_cons (callable Try.func31 rfl rfl) P31 (ctx_cons (callable Try.func29 rfl rfl) P29 (ctx_lend (callable Try.func27 rfl rfl) P27 (ctx_lend (callable Try.func25 rfl rfl) P25 (ctx_lend (callable Try.func23 rfl rfl) P23 (ctx_lend (callable Try.func21 rfl rfl) P21 (ctx_lend (callable Try.func18 rfl rfl) P18 (ctx_lend (callable Try.func16 rfl rfl) P16 (ctx_nil)))))))))))))))))) [[0]] 0 Try.func15 rfl rfl (by decide) (by kernel_rfl) ?_
  rintro ds d ⟨N, r, rfl, hF, rfl⟩ hok
  clear hok
  refine ⟨rfl, ?_⟩
  show vc _ _ _ _ ⟨[], []⟩ _
  unfold f15 at hF
  repeat' (first
    | ((with_reducible refine q0 _ _ ?_); clear Q q0 q1 q2)
    | ((with_reducible refine q1 _ _ _ _ ?_); clear Q q0 q1 q2)
    | ((with_reducible refine q2 _ _ _ ?_); clear Q q0 q1 q2)
    | ((with_reducible refine seq_op ?hx (fun Q q0 q1 q2 => ?_)); (case hx => exact rfl); conv => whnf)
    | ((with_reducible refine seq_off ?hx ?_); (case hx => exact rfl))
    | ((with_reducible refine seq_off0 ?hx ?_); (case hx => exact rfl))
    | ((with_reducible refine seq_id ?_); (first | ((refine seq_opK rfl ?hy (fun Q q0 q1 q2 => ?_)); (case hy => first | assumption | exact notT (by assumption) | exact rfl); conv => whnf) | ((refine seq_offK rfl ?hy ?_); (case hy => first | assumption | exact notF (by assumption) | exact rfl)) | ((refine seq_opK0 rfl ?hy (fun Q q0 q1 q2 => ?_)); (case hy => first | assumption | exact notT (by assumption) | exact rfl); conv => whnf) | ((refine seq_offK0 rfl ?hy ?_); (case hy => first | assumption | exact notF (by assumption) | exact rfl)) | (revert hF; (with_reducible refine seq_opF ?hx ?_ ?_); (case hx => exact rfl); (intro hc hF Q q0 q1 q2; conv => whnf); rotate_left; (intro hc hF); rotate_right) | (revert hF; (with_reducible refine seq_opN ?hx ?_ ?_); (case hx => exact rfl); (intro hc hF); rotate_left; (intro hc hF Q q0 q1 q2; conv => whnf); rotate_right) | (revert hF; (with_reducible refine seq_opF0 ?hx ?_ ?_); (case hx => exact rfl); (intro hc hF Q q0 q1 q2; conv => whnf); rotate_left; (intro hc hF); rotate_right) | (revert hF; (with_reducible refine seq_opN0 ?hx ?_ ?_); (case hx => exact rfl); (intro hc hF); rotate_left; (intro hc hF Q q0 q1 q2; conv => whnf); rotate_right)))
    | ((with_reducible refine cond_id ?_); (first | ((refine condKT rfl ?hy ?_); (case hy => first | assumption | exact notT (by assumption) | exact rfl)) | ((refine condKF rfl ?hy ?_); (case hy => first | assumption | exact notF (by assumption) | exact rfl)) | (revert hF; (with_reducible refine condF ?hx ?_ ?_); (case hx => exact rfl); all_goals (intro hc hF))))
    | ((with_reducible refine seq_nil ?_); (first | ((with_reducible refine hR _ ?_); clear R hR) | ((with_reducible refine hL _ ?_); clear L hL)))
    | ((with_reducible refine int_step ?_); conv => whnf)
    | ((with_reducible refine len_step ?_); conv => whnf)
    | with_reducible refine vc_block ?_
    | with_reducible refine vc_skip ?_
    | with_reducible refine vc_ret ?_
    | with_reducible refine vc_exit ?_
    | ((with_reducible refine vc_seqN [] ?hx ?_); (case hx => exact rfl))
    | ((with_reducible refine vc_region (fun R hR => ?_)); (try simp only [List.append_eq, List.cons_append, List.nil_append]))
    | fail
    | (revert hF; (with_reducible refine G16.lend ?hx ?_); (case hx => exact rfl); intro v hF; conv => whnf)
    | (revert hF; (with_reducible refine G18.lend ?hx ?_); (case hx => exact rfl); intro v hF; conv => whnf)
    | (revert hF; (with_reducible refine G21.lend ?hx ?_); (case hx => exact rfl); intro v hF; conv => whnf)
    | (revert hF; (with_reducible refine G23.lend ?hx ?_); (case hx => exact rfl); intro v hF; conv => whnf)
    | (revert hF; (with_reducible refine G25.lend ?hx ?_); (case hx => exact rfl); intro v hF; conv => whnf)
    | (revert hF; (with_reducible refine G27.lend ?hx ?_); (case hx => exact rfl); intro v hF; conv => whnf)
    | (revert hF; (with_reducible refine G29.step ?hx ?_); (case hx => exact rfl); intro v hF; conv => whnf)
    | (revert hF; (with_reducible refine G31.step ?hx ?_); (case hx => exact rfl); intro v hF; conv => whnf)
    | (revert hF; (with_reducible refine G33.lend ?hx ?_); (case hx => exact rfl); intro v hF; conv => whnf)
    | (revert hF; (with_reducible refine G34.lend ?hx ?_); (case hx => exact rfl); intro v hF; conv => whnf)
    | (revert hF; (with_reducible refine G35.step ?hx ?_); (case hx => exact rfl); intro v hF; conv => whnf)
    | (revert hF; (with_reducible refine G37.lend ?hx ?_); (case hx => exact rfl); intro v hF; conv => whnf)
    | (revert hF; (with_reducible refine G41.step ?hx ?_); (case hx => exact rfl); intro v hF; conv => whnf)
    | (revert hF; (with_reducible refine G43.step ?hx ?_); (case hx => exact rfl); intro v hF; conv => whnf)
    | (revert hF; (with_reducible refine G47.lend ?hx ?_); (case hx => exact rfl); intro v hF; conv => whnf)
    | (revert hF; (with_reducible refine G55.step ?hx ?_); (case hx => exact rfl); intro v hF; conv => whnf)
    | (revert hF; (with_reducible refine G56.step ?hx ?_); (case hx => exact rfl); intro v hF; conv => whnf)
    | with_reducible refine k_seq_ret ?_
    | with_reducible refine k_seq_exit ?_
    | with_reducible refine k_blk ?_
    | with_reducible refine k_blk_ret ?_
    | with_reducible refine k_blk_here ?_
    | ((with_reducible refine k_blk_out ?hx ?_); (case hx => exact rfl))
    | ((refine row_all ?hn ?_); (case hn => first | exact rfl | (simp; done) | (simp; omega)); conv => whnf)
    | ((with_reducible refine le_step ?hn ?_); (case hn => first | exact rfl | assumption | omega); conv => whnf)
    | ((refine ⟨?hx, ?_⟩); (case hx => exact ⟨rfl, Nat.le_of_ble_eq_true rfl, rfl⟩); conv => whnf)
    | ((with_reducible refine ex_step ?_); conv => whnf)
    | ((with_reducible refine both_T ?hx ?_); (case hx => first | exact rfl | assumption | exact notT (by assumption)); conv => whnf)
    | ((with_reducible refine both_F ?hx ?_); (case hx => first | exact rfl | assumption | exact notF (by assumption)); conv => whnf)
    | (revert hF; (with_reducible refine ite_step ?_ ?_) <;> (intro hc hF; conv => whnf))
    | ((with_reducible refine vc_condT ?hx ?_); (case hx => exact rfl))
    | ((with_reducible refine vc_condF ?hx ?_); (case hx => exact rfl))
    | (show retD _ _ _ _ _ _; conv => whnf)
    | ((refine ⟨?hx, trivial⟩); (case hx => (cases hF; exact rfl)))
    | ((refine ⟨?hx, ?_⟩); (case hx => decide); conv => whnf)
    | ((with_reducible refine k_seq ?_))
    | (have hF : (none : Option _) = some _ := hF; cases hF))
end
end Go.Vc
namespace Go.Vc
open Go.Proofs
set_option linter.unusedVariables false
set_option linter.unnecessarySimpa false
set_option linter.unusedSimpArgs false
section
variable {c : Ctx} {p nid : Nat} {a b : Code} {st : St} {K : Ex → St → Prop}
/- f79: tusche/serial.Twins$1 -/
def f79 (N : Nat) (a0 : Int) (a1 : Int) : Option ((List Int) × (List Int)) :=
 some ([a0, a0], [a1, a1])
def G79 (ds : List D) (d : D) : Prop := ∃ (N : Nat) (a0 : Int) (a1 : Int) (r : (List Int) × (List Int)), ds = [iN a0, iN a1] ∧ f79 N a0 a1 = some r ∧ d = .tup [sl_iN r.1, sl_iN r.2]
theorem G79.step {N : Nat} {a0 : Int} {a1 : Int} {ρ : Type} {A : ((List Int) × (List Int)) → Option ρ} {q : ρ} {ds : List D} {K : D → Prop} (hd : ds = [iN a0, iN a1]) (h : ∀ r, A r = some q → K (.tup [sl_iN r.1, sl_iN r.2])) (hF : (f79 N a0 a1).bind A = some q) : ∃ d, G79 ds d ∧ K d := by
  obtain ⟨r, hr, hA⟩ := bind_some hF
  exact ⟨_, ⟨N, a0, a1, r, hd, hr, rfl⟩, h r hA⟩
set_option maxRecDepth 20000 in
set_option maxHeartbeats 4000000 in
theorem P79 : PureOK Try.prog 79 G79 := by
  refine pure_of_vc (c := mkCtx tyTree []) rfl tyOK (ctx_nil) [[1], [1]] 2 Try.func79 rfl rfl (by decide) (by kernel_rfl) ?_
  rintro ds d ⟨N, a0, a1, r, rfl, hF, rfl⟩ hok
  clear hok
  refine ⟨rfl, ?_⟩
  show vc _ _ _ _ ⟨[(0, .dat (iN a0)), (1, .dat (iN a1))], []⟩ _
  unfold f79 at hF
  repeat' (first
    | ((with_reducible refine q0 _ _ ?_); clear Q q0 q1 q2)
    | ((with_reducible refine q1 _ _ _ _ ?_); clear Q q0 q1 q2)
    | ((with_reducible refine q2 _ _ _ ?_); clear Q q0 q1 q2)
    | ((with_reducible refine seq_op ?hx (fun Q q0 q1 q2 => ?_)); (case hx => exact rfl); conv => whnf)
    | ((with_reducible refine seq_nil ?_); (first | ((with_reducible refine hR _ ?_); clear R hR) | ((with_reducible refine hL _ ?_); clear L hL)))
    | ((with_reducible refine int_step ?_); conv => whnf)
    | with_reducible refine vc_skip ?_
    | with_reducible refine vc_ret ?_
    | ((with_reducible refine vc_seqN [] ?hx ?_); (case hx => exact rfl))
    | (with_reducible refine vc_region (fun R hR => ?_))
    | fail
    | with_reducible refine k_seq_ret ?_
    | ((refine row_all ?hn ?_); (case hn => first | exact rfl | (simp; done) | (simp; omega)); conv => whnf)
    | ((with_reducible refine le_step ?hn ?_); (case hn => first | exact rfl | assumption | omega); conv => whnf)
    | ((refine ⟨?hx, ?_⟩); (case hx => exact ⟨rfl, Nat.le_of_ble_eq_true rfl, rfl⟩); conv => whnf)
    | ((with_reducible refine ex_step ?_); conv => whnf)
    | ((with_reducible refine both_T ?hx ?_); (case hx => first | exact rfl | assumption | exact notT (by assumption)); conv => whnf)
    | ((with_reducible refine both_F ?hx ?_); (case hx => first | exact rfl | assumption | exact notF (by assumption)); conv => whnf)
    | (revert hF; (with_reducible refine ite_step ?_ ?_) <;> (intro hc hF; conv => whnf))
    | (show retD _ _ _ _ _ _; conv => whnf)
    | ((refine ⟨?hx, trivial⟩); (case hx => (cases hF; exact rfl)))
    | ((refine ⟨?hx, ?_⟩); (case hx => decide); conv => whnf)
    | ((with_reducible refine k_seq ?_))
    | (have hF : (none : Option _) = some _ := hF; cases hF))
end
end Go.Vc
namespace Go.Vc
open Go.Proofs
set_option linter.unusedVariables false
set_option linter.unnecessarySimpa false
set_option linter.unusedSimpArgs false
section
variable {c : Ctx} {p nid : Nat} {a b : Code} {st : St} {K : Ex → St → Prop}
/- f45: tusche/serial.Twins -/
def f45_i101_c20 (N : Nat) (out7 : List Spot) : Option ((List Spot) × Int) :=
 (f96 N (Wk .u64 ((List.length out7 : Int)))).bind fun x2 =>
 (f95 N (0 : Int) (List.length out7 : Int) x2 out7).bind fun x3 =>
 (keepL out7 x3).bind fun x4 =>
 some (x4, (0 : Int))
def Sf45_i101_c20 : Ann := ⟨[7], [102090007], [(.slot 7, 102090007, 73, 3)], []⟩
def Vf45_i101_c20 (out7 : List Spot) : List SV := [.rs 102090007 (List.length out7)]
def Bf45_i101_c20 (out7 : List Spot) : List Blk := [.row 73 3 (List.map Spot.d out7)]
def Yf45_i101_c20 (y : (List Spot)) : List SV := Vf45_i101_c20 y
def Xf45_i101_c20 (y : (List Spot)) : List Blk := Bf45_i101_c20 y
def Jf45_i101_c20 (N : Nat) (r : (List Spot) × Int) (y : (List Spot)) : Prop := f45_i101_c20 N y = some r
def V2f45_i101_c20 (out7 : List Spot) (m0 : Nat) : List SV := [.rs 102090007 m0]
def B2f45_i101_c20 (out7 : List Spot) (m0 : Nat) : List Blk := [.row 73 3 (List.map Spot.d out7)]
theorem Cf45_i101_c20 {r : (List Spot) × Int} {N : Nat} {g : _ → Option ((List Spot) × Int)} (hn : Nat.beq (nid * 1000 + firstRegion b) 102000000020 = true) (hz : Sf45_i101_c20.ok p = true) (h : g (f45_i101_c20 N) = some r → vc c p nid a st (KHead Sf45_i101_c20 Yf45_i101_c20 Xf45_i101_c20 (Jf45_i101_c20 N r) K)) (h2 : ∀ (out7 : List Spot), f45_i101_c20 N out7 = some r → vc c p nid b (St.mk' Sf45_i101_c20 (Vf45_i101_c20 out7) (Bf45_i101_c20 out7)) K) (hF : joinK (f45_i101_c20 N) g = some r) : vc c p nid (.seq a b) st K :=
  vc_cut Sf45_i101_c20 Yf45_i101_c20 Xf45_i101_c20 (Jf45_i101_c20 N r) hz (h hF) fun y hy => h2 y hy
theorem Zf45_i101_c20 {r : (List Spot) × Int} {N : Nat} {out7 : List Spot} {m0 : Nat} (hF : f45_i101_c20 N out7 = some r) (h0 : AtH Sf45_i101_c20 st (V2f45_i101_c20 out7 m0) (B2f45_i101_c20 out7 m0)) (em0 : m0 = List.length out7) : KHead Sf45_i101_c20 Yf45_i101_c20 Xf45_i101_c20 (Jf45_i101_c20 N r) K .normal st := by
  subst em0; exact khead (I := (Jf45_i101_c20 N r)) (x := (out7)) hF h0
def f45_i101_c19 (a0 : List (List Int)) (v20 : Int) (r6 : (List Spot) → Int → Option ((List Spot) × Int)) (out7' : List Spot) : Option ((List Spot) × Int) :=
 r6 (out7') (W (v20 + (1 : Int)))
def Sf45_i101_c19 : Ann := ⟨[0, 1, 7, 19, 20], [102090007], [(.slot 7, 102090007, 73, 3)], []⟩
def Vf45_i101_c19 (a0 : List (List Int)) (v20 : Int) (out7' : List Spot) : List SV := [.dat (sl_sl_iN a0), .dat (.v (.func (.func 79) #[] #[])), .rs 102090007 (List.length (out7')), .dat (iN (List.length a0 : Int)), .dat (iN v20)]
def Bf45_i101_c19 (a0 : List (List Int)) (v20 : Int) (out7' : List Spot) : List Blk := [.row 73 3 (List.map Spot.d (out7'))]
def Yf45_i101_c19 (a0 : List (List Int)) (v20 : Int) (y : (List Spot)) : List SV := Vf45_i101_c19 a0 v20 y
def Xf45_i101_c19 (a0 : List (List Int)) (v20 : Int) (y : (List Spot)) : List Blk := Bf45_i101_c19 a0 v20 y
def Jf45_i101_c19 (a0 : List (List Int)) (v20 : Int) (r6 : (List Spot) → Int → Option ((List Spot) × Int)) (r : (List Spot) × Int) (y : (List Spot)) : Prop := f45_i101_c19 a0 v20 r6 y = some r
def V2f45_i101_c19 (a0 : List (List Int)) (v20 : Int) (out7' : List Spot) (m0 : Nat) : List SV := [.dat (sl_sl_iN a0), .dat (.v (.func (.func 79) #[] #[])), .rs 102090007 m0, .dat (iN (List.length a0 : Int)), .dat (iN v20)]
def B2f45_i101_c19 (a0 : List (List Int)) (v20 : Int) (out7' : List Spot) (m0 : Nat) : List Blk := [.row 73 3 (List.map Spot.d (out7'))]
theorem Cf45_i101_c19 {r : (List Spot) × Int} {a0 : List (List Int)} {v20 : Int} {r6 : (List Spot) → Int → Option ((List Spot) × Int)} {g : _ → Option ((List Spot) × Int)} (hn : Nat.beq (nid * 1000 + firstRegion b) 102000000019 = true) (hz : Sf45_i101_c19.ok p = true) (h : g (f45_i101_c19 a0 v20 r6) = some r → vc c p nid a st (KHead Sf45_i101_c19 (Yf45_i101_c19 a0 v20) (Xf45_i101_c19 a0 v20) (Jf45_i101_c19 a0 v20 r6 r) K)) (h2 : ∀ (out7' : List Spot), f45_i101_c19 a0 v20 r6 out7' = some r → vc c p nid b (St.mk' Sf45_i101_c19 (Vf45_i101_c19 a0 v20 out7') (Bf45_i101_c19 a0 v20 out7')) K) (hF : joinK (f45_i101_c19 a0 v20 r6) g = some r) : vc c p nid (.seq a b) st K :=
  vc_cut Sf45_i101_c19 (Yf45_i101_c19 a0 v20) (Xf45_i101_c19 a0 v20) (Jf45_i101_c19 a0 v20 r6 r) hz (h hF) fun y hy => h2 y hy
theorem Zf45_i101_c19 {r : (List Spot) × Int} {a0 : List (List Int)} {v20 : Int} {r6 : (List Spot) → Int → Option ((List Spot) × Int)} {out7' : List Spot} {m0 : Nat} (hF : f45_i101_c19 a0 v20 r6 out7' = some r) (h0 : AtH Sf45_i101_c19 st (V2f45_i101_c19 a0 v20 out7' m0) (B2f45_i101_c19 a0 v20 out7' m0)) (em0 : m0 = List.length (out7')) : KHead Sf45_i101_c19 (Yf45_i101_c19 a0 v20) (Xf45_i101_c19 a0 v20) (Jf45_i101_c19 a0 v20 r6 r) K .normal st := by
  subst em0; exact khead (I := (Jf45_i101_c19 a0 v20 r6 r)) (x := (out7')) hF h0
def f45_i101_c18 (a0 : List (List Int)) (v20 : Int) (v25 : Int) (r9 : (List Spot) → Int → Option ((List Spot) × Int)) (out7'' : List Spot) : Option ((List Spot) × Int) :=
 r9 (out7'') (W (v25 + (1 : Int)))
def Sf45_i101_c18 : Ann := ⟨[0, 1, 7, 8, 19, 20, 24, 25], [102090007], [(.slot 7, 102090007, 73, 3)], []⟩
def Vf45_i101_c18 (a0 : List (List Int)) (v20 : Int) (v25 : Int) (out7'' : List Spot) : List SV := [.dat (sl_sl_iN a0), .dat (.v (.func (.func 79) #[] #[])), .rs 102090007 (List.length (out7'')), .dat (iN v20), .dat (iN (List.length a0 : Int)), .dat (iN v20), .dat (iN (List.length a0 : Int)), .dat (iN v25)]
def Bf45_i101_c18 (a0 : List (List Int)) (v20 : Int) (v25 : Int) (out7'' : List Spot) : List Blk := [.row 73 3 (List.map Spot.d (out7''))]
def Yf45_i101_c18 (a0 : List (List Int)) (v20 : Int) (v25 : Int) (y : (List Spot)) : List SV := Vf45_i101_c18 a0 v20 v25 y
def Xf45_i101_c18 (a0 : List (List Int)) (v20 : Int) (v25 : Int) (y : (List Spot)) : List Blk := Bf45_i101_c18 a0 v20 v25 y
def Jf45_i101_c18 (a0 : List (List Int)) (v20 : Int) (v25 : Int) (r9 : (List Spot) → Int → Option ((List Spot) × Int)) (r : (List Spot) × Int) (y : (List Spot)) : Prop := f45_i101_c18 a0 v20 v25 r9 y = some r
def V2f45_i101_c18 (a0 : List (List Int)) (v20 : Int) (v25 : Int) (out7'' : List Spot) (m0 : Nat) : List SV := [.dat (sl_sl_iN a0), .dat (.v (.func (.func 79) #[] #[])), .rs 102090007 m0, .dat (iN v20), .dat (iN (List.length a0 : Int)), .dat (iN v20), .dat (iN (List.length a0 : Int)), .dat (iN v25)]
def B2f45_i101_c18 (a0 : List (List Int)) (v20 : Int) (v25 : Int) (out7'' : List Spot) (m0 : Nat) : List Blk := [.row 73 3 (List.map Spot.d (out7''))]
theorem Cf45_i101_c18 {r : (List Spot) × Int} {a0 : List (List Int)} {v20 : Int} {v25 : Int} {r9 : (List Spot) → Int → Option ((List Spot) × Int)} {g : _ → Option ((List Spot) × Int)} (hn : Nat.beq (nid * 1000 + firstRegion b) 102000000018 = true) (hz : Sf45_i101_c18.ok p = true) (h : g (f45_i101_c18 a0 v20 v25 r9) = some r → vc c p nid a st (KHead Sf45_i101_c18 (Yf45_i101_c18 a0 v20 v25) (Xf45_i101_c18 a0 v20 v25) (Jf45_i101_c18 a0 v20 v25 r9 r) K)) (h2 : ∀ (out7'' : List Spot), f45_i101_c18 a0 v20 v25 r9 out7'' = some r → vc c p nid b (St.mk' Sf45_i101_c18 (Vf45_i101_c18 a0 v20 v25 out7'') (Bf45_i101_c18 a0 v20 v25 out7'')) K) (hF : joinK (f45_i101_c18 a0 v20 v25 r9) g = some r) : vc c p nid (.seq a b) st K :=
  vc_cut Sf45_i101_c18 (Yf45_i101_c18 a0 v20 v25) (Xf45_i101_c18 a0 v20 v25) (Jf45_i101_c18 a0 v20 v25 r9 r) hz (h hF) fun y hy => h2 y hy
theorem Zf45_i101_c18 {r : (List Spot) × Int} {a0 : List (List Int)} {v20 : Int} {v25 : Int} {r9 : (List Spot) → Int → Option ((List Spot) × Int)} {out7'' : List Spot} {m0 : Nat} (hF : f45_i101_c18 a0 v20 v25 r9 out7'' = some r) (h0 : AtH Sf45_i101_c18 st (V2f45_i101_c18 a0 v20 v25 out7'' m0) (B2f45_i101_c18 a0 v20 v25 out7'' m0)) (em0 : m0 = List.length (out7'')) : KHead Sf45_i101_c18 (Yf45_i101_c18 a0 v20 v25) (Xf45_i101_c18 a0 v20 v25) (Jf45_i101_c18 a0 v20 v25 r9 r) K .normal st := by
  subst em0; exact khead (I := (Jf45_i101_c18 a0 v20 v25 r9 r)) (x := (out7'')) hF h0
def f45_i101_12b (r12 : (List Spot) → Int → Option ((List Spot) × Int)) (a0 : List (List Int)) (N : Nat) (v20 : Int) (v25 : Int) (k2 : (List Spot) → Option ((List Spot) × Int)) (out7'' : List Spot) (v29 : Int) : Option ((List Spot) × Int) :=
 bif decide (v29 < v25) then ((f79 N v29 v25).bind fun x5 =>
 (f59 N a0 v20 x5.1).bind fun x6 =>
 (f59 N a0 v20 x5.2).bind fun x7 =>
 bif decide (x6 = x7) then ((app 24 (out7'') [(Spot.mk v20 v29 v25)]).bind fun x8 =>
 r12 x8 (W (v29 + (1 : Int))))
 else (r12 (out7'') (W (v29 + (1 : Int)))))
 else (k2 (out7''))
def f45_i101_12 (a0 : List (List Int)) (N : Nat) (v20 : Int) (v25 : Int) (k2 : (List Spot) → Option ((List Spot) × Int)) : Nat → (List Spot) → Int → Option ((List Spot) × Int)
  | 0, _, _ => none
  | n + 1, out7'', v29 => f45_i101_12b (f45_i101_12 a0 N v20 v25 k2 n) a0 N v20 v25 k2 out7'' v29
def Sf45_i101_12 : Ann := ⟨[0, 1, 7, 8, 9, 19, 20, 24, 25, 28, 29], [102090007], [(.slot 7, 102090007, 73, 3)], []⟩
def Vf45_i101_12 (a0 : List (List Int)) (v20 : Int) (v25 : Int) (out7'' : List Spot) (v29 : Int) : List SV := [.dat (sl_sl_iN a0), .dat (.v (.func (.func 79) #[] #[])), .rs 102090007 (List.length (out7'')), .dat (iN v20), .dat (iN v25), .dat (iN (List.length a0 : Int)), .dat (iN v20), .dat (iN (List.length a0 : Int)), .dat (iN v25), .dat (iN v25), .dat (iN v29)]
def Bf45_i101_12 (a0 : List (List Int)) (v20 : Int) (v25 : Int) (out7'' : List Spot) (v29 : Int) : List Blk := [.row 73 3 (List.map Spot.d (out7''))]
def Yf45_i101_12 (a0 : List (List Int)) (v20 : Int) (v25 : Int) (y : Nat × (List Spot) × Int) : List SV := Vf45_i101_12 a0 v20 v25 y.2.1 y.2.2
def Xf45_i101_12 (a0 : List (List Int)) (v20 : Int) (v25 : Int) (y : Nat × (List Spot) × Int) : List Blk := Bf45_i101_12 a0 v20 v25 y.2.1 y.2.2
def Jf45_i101_12 (a0 : List (List Int)) (N : Nat) (v20 : Int) (v25 : Int) (k2 : (List Spot) → Option ((List Spot) × Int)) (r : (List Spot) × Int) (y : Nat × (List Spot) × Int) : Prop := f45_i101_12 a0 N v20 v25 k2 y.1 y.2.1 y.2.2 = some r
def V2f45_i101_12 (a0 : List (List Int)) (v20 : Int) (v25 : Int) (out7'' : List Spot) (v29 : Int) (m0 : Nat) : List SV := [.dat (sl_sl_iN a0), .dat (.v (.func (.func 79) #[] #[])), .rs 102090007 m0, .dat (iN v20), .dat (iN v25), .dat (iN (List.length a0 : Int)), .dat (iN v20), .dat (iN (List.length a0 : Int)), .dat (iN v25), .dat (iN v25), .dat (iN v29)]
def B2f45_i101_12 (a0 : List (List Int)) (v20 : Int) (v25 : Int) (out7'' : List Spot) (v29 : Int) (m0 : Nat) : List Blk := [.row 73 3 (List.map Spot.d (out7''))]
theorem Lf45_i101_12 {r : (List Spot) × Int} {a0 : List (List Int)} {N : Nat} {v20 : Int} {v25 : Int} {k2 : (List Spot) → Option ((List Spot) × Int)} {fu : Nat} {out7'' : List Spot} {v29 : Int} {m0 : Nat} (hz : Sf45_i101_12.ok p = true) (h0 : AtH Sf45_i101_12 st (V2f45_i101_12 a0 v20 v25 out7'' v29 m0) (B2f45_i101_12 a0 v20 v25 out7'' v29 m0)) (em0 : m0 = List.length (out7'')) (h : ∀ (n : Nat) (out7'' : List Spot) (v29 : Int), f45_i101_12b (f45_i101_12 a0 N v20 v25 k2 n) a0 N v20 v25 k2 out7'' v29 = some r → vc c p nid a (St.mk' Sf45_i101_12 (Vf45_i101_12 a0 v20 v25 out7'' v29) (Bf45_i101_12 a0 v20 v25 out7'' v29)) (Kloop Sf45_i101_12 (Yf45_i101_12 a0 v20 v25) (Xf45_i101_12 a0 v20 v25) (Jf45_i101_12 a0 N v20 v25 k2 r) Prod.fst (n + 1, out7'', v29) K)) (hF : f45_i101_12 a0 N v20 v25 k2 fu out7'' v29 = some r) : vc c p nid (.loop a) st K := by
  subst em0; refine vc_loop Sf45_i101_12 (Yf45_i101_12 a0 v20 v25) (Xf45_i101_12 a0 v20 v25) (Jf45_i101_12 a0 N v20 v25 k2 r) Prod.fst hz (kheadL (x := (fu, out7'', v29)) hF h0) ?_
  rintro ⟨_ | n, out7'', v29⟩ hI
  · cases hI
  · exact h n out7'' v29 hI
theorem Mf45_i101_12 {r : (List Spot) × Int} {a0 : List (List Int)} {N : Nat} {v20 : Int} {v25 : Int} {k2 : (List Spot) → Option ((List Spot) × Int)} {n : Nat} {out7'' : List Spot} {v29 : Int} {out7''_ : List Spot} {v29_ : Int} {m0 : Nat} (hF : f45_i101_12 a0 N v20 v25 k2 n out7'' v29 = some r) (h0 : AtH Sf45_i101_12 st (V2f45_i101_12 a0 v20 v25 out7'' v29 m0) (B2f45_i101_12 a0 v20 v25 out7'' v29 m0)) (em0 : m0 = List.length (out7'')) : Kloop Sf45_i101_12 (Yf45_i101_12 a0 v20 v25) (Xf45_i101_12 a0 v20 v25) (Jf45_i101_12 a0 N v20 v25 k2 r) Prod.fst (n + 1, out7''_, v29_) K .normal st := by
  subst em0; exact kback (y := (n, out7'', v29)) hF (Nat.lt_succ_self n) h0
def f45_i101_9b (r9 : (List Spot) → Int → Option ((List Spot) × Int)) (a0 : List (List Int)) (N : Nat) (v20 : Int) (k1 : (List Spot) → Option ((List Spot) × Int)) (out7' : List Spot) (v25 : Int) : Option ((List Spot) × Int) :=
 bif decide (v25 < (List.length a0 : Int)) then (joinK (f45_i101_c18 a0 v20 v25 r9) fun k2 =>
 f45_i101_12 a0 N v20 v25 k2 N (out7') (0 : Int))
 else (k1 (out7'))
def f45_i101_9 (a0 : List (List Int)) (N : Nat) (v20 : Int) (k1 : (List Spot) → Option ((List Spot) × Int)) : Nat → (List Spot) → Int → Option ((List Spot) × Int)
  | 0, _, _ => none
  | n + 1, out7', v25 => f45_i101_9b (f45_i101_9 a0 N v20 k1 n) a0 N v20 k1 out7' v25
def Sf45_i101_9 : Ann := ⟨[0, 1, 7, 8, 19, 20, 24, 25], [102090007], [(.slot 7, 102090007, 73, 3)], []⟩
def Vf45_i101_9 (a0 : List (List Int)) (v20 : Int) (out7' : List Spot) (v25 : Int) : List SV := [.dat (sl_sl_iN a0), .dat (.v (.func (.func 79) #[] #[])), .rs 102090007 (List.length (out7')), .dat (iN v20), .dat (iN (List.length a0 : Int)), .dat (iN v20), .dat (iN (List.length a0 : Int)), .dat (iN v25)]
def Bf45_i101_9 (a0 : List (List Int)) (v20 : Int) (out7' : List Spot) (v25 : Int) : List Blk := [.row 73 3 (List.map Spot.d (out7'))]
def Yf45_i101_9 (a0 : List (List Int)) (v20 : Int) (y : Nat × (List Spot) × Int) : List SV := Vf45_i101_9 a0 v20 y.2.1 y.2.2
def Xf45_i101_9 (a0 : List (List Int)) (v20 : Int) (y : Nat × (List Spot) × Int) : List Blk := Bf45_i101_9 a0 v20 y.2.1 y.2.2
def Jf45_i101_9 (a0 : List (List Int)) (N : Nat) (v20 : Int) (k1 : (List Spot) → Option ((List Spot) × Int)) (r : (List Spot) × Int) (y : Nat × (List Spot) × Int) : Prop := f45_i101_9 a0 N v20 k1 y.1 y.2.1 y.2.2 = some r
def V2f45_i101_9 (a0 : List (List Int)) (v20 : Int) (out7' : List Spot) (v25 : Int) (m0 : Nat) : List SV := [.dat (sl_sl_iN a0), .dat (.v (.func (.func 79) #[] #[])), .rs 102090007 m0, .dat (iN v20), .dat (iN (List.length a0 : Int)), .dat (iN v20), .dat (iN (List.length a0 : Int)), .dat (iN v25)]
def B2f45_i101_9 (a0 : List (List Int)) (v20 : Int) (out7' : List Spot) (v25 : Int) (m0 : Nat) : List Blk := [.row 73 3 (List.map Spot.d (out7'))]
theorem Lf45_i101_9 {r : (List Spot) × Int} {a0 : List (List Int)} {N : Nat} {v20 : Int} {k1 : (List Spot) → Option ((List Spot) × Int)} {fu : Nat} {out7' : List Spot} {v25 : Int} {m0 : Nat} (hz : Sf45_i101_9.ok p = true) (h0 : AtH Sf45_i101_9 st (V2f45_i101_9 a0 v20 out7' v25 m0) (B2f45_i101_9 a0 v20 out7' v25 m0)) (em0 : m0 = List.length (out7')) (h : ∀ (n : Nat) (out7' : List Spot) (v25 : Int), f45_i101_9b (f45_i101_9 a0 N v20 k1 n) a0 N v20 k1 out7' v25 = some r → vc c p nid a (St.mk' Sf45_i101_9 (Vf45_i101_9 a0 v20 out7' v25) (Bf45_i101_9 a0 v20 out7' v25)) (Kloop Sf45_i101_9 (Yf45_i101_9 a0 v20) (Xf45_i101_9 a0 v20) (Jf45_i101_9 a0 N v20 k1 r) Prod.fst (n + 1, out7', v25) K)) (hF : f45_i101_9 a0 N v20 k1 fu out7' v25 = some r) : vc c p nid (.loop a) st K := by
  subst em0; refine vc_loop Sf45_i101_9 (Yf45_i101_9 a0 v20) (Xf45_i101_9 a0 v20) (Jf45_i101_9 a0 N v20 k1 r) Prod.fst hz (kheadL (x := (fu, out7', v25)) hF h0) ?_
  rintro ⟨_ | n, out7', v25⟩ hI
  · cases hI
  · exact h n out7' v25 hI
theorem Mf45_i101_9 {r : (List Spot) × Int} {a0 : List (List Int)} {N : Nat} {v20 : Int} {k1 : (List Spot) → Option ((List Spot) × Int)} {n : Nat} {out7' : List Spot} {v25 : Int} {out7'_ : List Spot} {v25_ : Int} {m0 : Nat} (hF : f45_i101_9 a0 N v20 k1 n out7' v25 = some r) (h0 : AtH Sf45_i101_9 st (V2f45_i101_9 a0 v20 out7' v25 m0) (B2f45_i101_9 a0 v20 out7' v25 m0)) (em0 : m0 = List.length (out7')) : Kloop Sf45_i101_9 (Yf45_i101_9 a0 v20) (Xf45_i101_9 a0 v20) (Jf45_i101_9 a0 N v20 k1 r) Prod.fst (n + 1, out7'_, v25_) K .normal st := by
  subst em0; exact kback (y := (n, out7', v25)) hF (Nat.lt_succ_self n) h0
def f45_i101_6b (r6 : (List Spot) → Int → Option ((List Spot) × Int)) (a0 : List (List Int)) (N : Nat) (k0 : (List Spot) → Option ((List Spot) × Int)) (out7 : List Spot) (v20 : Int) : Option ((List Spot) × Int) :=
 bif decide (v20 < (List.length a0 : Int)) then (joinK (f45_i101_c19 a0 v20 r6) fun k1 =>
 f45_i101_9 a0 N v20 k1 N out7 (0 : Int))
 else (k0 out7)
def f45_i101_6 (a0 : List (List Int)) (N : Nat) (k0 : (List Spot) → Option ((List Spot) × Int)) : Nat → (List Spot) → Int → Option ((List Spot) × Int)
  | 0, _, _ => none
  | n + 1, out7, v20 => f45_i101_6b (f45_i101_6 a0 N k0 n) a0 N k0 out7 v20
def Sf45_i101_6 : Ann := ⟨[0, 1, 7, 19, 20], [102090007], [(.slot 7, 102090007, 73, 3)], []⟩
def Vf45_i101_6 (a0 : List (List Int)) (out7 : List Spot) (v20 : Int) : List SV := [.dat (sl_sl_iN a0), .dat (.v (.func (.func 79) #[] #[])), .rs 102090007 (List.length out7), .dat (iN (List.length a0 : Int)), .dat (iN v20)]
def Bf45_i101_6 (a0 : List (List Int)) (out7 : List Spot) (v20 : Int) : List Blk := [.row 73 3 (List.map Spot.d out7)]
def Yf45_i101_6 (a0 : List (List Int)) (y : Nat × (List Spot) × Int) : List SV := Vf45_i101_6 a0 y.2.1 y.2.2
def Xf45_i101_6 (a0 : List (List Int)) (y : Nat × (List Spot) × Int) : List Blk := Bf45_i101_6 a0 y.2.1 y.2.2
def Jf45_i101_6 (a0 : List (List Int)) (N : Nat) (k0 : (List Spot) → Option ((List Spot) × Int)) (r : (List Spot) × Int) (y : Nat × (List Spot) × Int) : Prop := f45_i101_6 a0 N k0 y.1 y.2.1 y.2.2 = some r
def V2f45_i101_6 (a0 : List (List Int)) (out7 : List Spot) (v20 : Int) (m0 : Nat) : List SV := [.dat (sl_sl_iN a0), .dat (.v (.func (.func 79) #[] #[])), .rs 102090007 m0, .dat (iN (List.length a0 : Int)), .dat (iN v20)]
def B2f45_i101_6 (a0 : List (List Int)) (out7 : List Spot) (v20 : Int) (m0 : Nat) : List Blk := [.row 73 3 (List.map Spot.d out7)]
theorem Lf45_i101_6 {r : (List Spot) × Int} {a0 : List (List Int)} {N : Nat} {k0 : (List Spot) → Option ((List Spot) × Int)} {fu : Nat} {out7 : List Spot} {v20 : Int} {m0 : Nat} (hz : Sf45_i101_6.ok p = true) (h0 : AtH Sf45_i101_6 st (V2f45_i101_6 a0 out7 v20 m0) (B2f45_i101_6 a0 out7 v20 m0)) (em0 : m0 = List.length out7) (h : ∀ (n : Nat) (out7 : List Spot) (v20 : Int), f45_i101_6b (f45_i101_6 a0 N k0 n) a0 N k0 out7 v20 = some r → vc c p nid a (St.mk' Sf45_i101_6 (Vf45_i101_6 a0 out7 v20) (Bf45_i101_6 a0 out7 v20)) (Kloop Sf45_i101_6 (Yf45_i101_6 a0) (Xf45_i101_6 a0) (Jf45_i101_6 a0 N k0 r) Prod.fst (n + 1, out7, v20) K)) (hF : f45_i101_6 a0 N k0 fu out7 v20 = some r) : vc c p nid (.loop a) st K := by
  subst em0; refine vc_loop Sf45_i101_6 (Yf45_i101_6 a0) (Xf45_i101_6 a0) (Jf45_i101_6 a0 N k0 r) Prod.fst hz (kheadL (x := (fu, out7, v20)) hF h0) ?_
  rintro ⟨_ | n, out7, v20⟩ hI
  · cases hI
  · exact h n out7 v20 hI
theorem Mf45_i101_6 {r : (List Spot) × Int} {a0 : List (List Int)} {N : Nat} {k0 : (List Spot) → Option ((List Spot) × Int)} {n : Nat} {out7 : List Spot} {v20 : Int} {out7_ : List Spot} {v20_ : Int} {m0 : Nat} (hF : f45_i101_6 a0 N k0 n out7 v20 = some r) (h0 : AtH Sf45_i101_6 st (V2f45_i101_6 a0 out7 v20 m0) (B2f45_i101_6 a0 out7 v20 m0)) (em0 : m0 = List.length out7) : Kloop Sf45_i101_6 (Yf45_i101_6 a0) (Xf45_i101_6 a0) (Jf45_i101_6 a0 N k0 r) Prod.fst (n + 1, out7_, v20_) K .normal st := by
  subst em0; exact kback (y := (n, out7, v20)) hF (Nat.lt_succ_self n) h0
def f45 (N : Nat) (a0 : List (List Int)) : Option ((List Spot) × Int) :=
 (f49 N a0).bind fun x1 =>
 bif decide (¬ x1 = (0 : Int)) then (some ([], x1))
 else (joinK (f45_i101_c20 N) fun k0 =>
 f45_i101_6 a0 N k0 N [] (0 : Int))
def G45 (ds : List D) (d : D) : Prop := ∃ (N : Nat) (a0 : List (List Int)) (r : (List Spot) × Int), ds = [sl_sl_iN a0] ∧ f45 N a0 = some r ∧ d = .tup [sl_Spot r.1, iN r.2]
theorem G45.step {N : Nat} {a0 : List (List Int)} {ρ : Type} {A : ((List Spot) × Int) → Option ρ} {q : ρ} {ds : List D} {K : D → Prop} (hd : ds = [sl_sl_iN a0]) (h : ∀ r, A r = some q → K (.tup [sl_Spot r.1, iN r.2])) (hF : (f45 N a0).bind A = some q) : ∃ d, G45 ds d ∧ K d := by
  obtain ⟨r, hr, hA⟩ := bind_some hF
  exact ⟨_, ⟨N, a0, r, hd, hr, rfl⟩, h r hA⟩
set_option maxRecDepth 20000 in
set_option maxHeartbeats 4000000 in
theorem P45 : PureOK Try.prog 45 G45 := by
  refine pure_of_vc (c := mkCtx tyTree [(76, false, inlPg (mkCtx tyTree [(90, false, inlPg (mkCtx tyTree [(95, false, effPg Spf95 G95), (96, true, lendPg [[0]] G96)]) Try.f90), (79, true, purePg [[0], [0]] G79), (59, true, lendPg [[1], [0], [1]] G59), (49, true, lendPg [[1]] G49)]) Try.f76)]) rfl tyOK (ctx_eff (callable Try.func76 rfl rfl) (CallOK.inl rfl tyOK (ctx_eff (callable Try.func90 rfl rfl) (CallOK.inl rfl tyOK (ctx_eff (callable Try.func95 rfl rfl) P95 (ctx_lend (callable Try.func96 rfl rfl) P96 (ctx_nil))) Try.func90 (by kernel_rfl)) (ctx_cons (callable Try.func79 rfl rfl) P79 (ctx_lend (callable Try.func59 rfl rfl) P59 (ctx_lend (callable Try.func49 rfl rfl) P49 (ctx_nil))))) Try.func76 (by kernel_rfl)) (ctx_nil)) [[3], [0]] 1 Try.func45 rfl rfl (by decide) (by kernel_rfl) ?_
  rintro ds d ⟨N, a0, r, rfl, hF, rfl⟩ hok
  clear hok
  refine ⟨rfl, ?_⟩
  show vc _ _ _ _ ⟨[(0, .dat (sl_sl_iN a0))], []⟩ _
  unfold f45 at hF
  repeat' (first
    | ((with_reducible refine q0 _ _ ?_); clear Q q0 q1 q2)
    | ((with_reducible refine q1 _ _ _ _ ?_); clear Q q0 q1 q2)
    | ((with_reducible refine q2 _ _ _ ?_); clear Q q0 q1 q2)
    | ((with_reducible refine seq_op ?hx (fun Q q0 q1 q2 => ?_)); (case hx => exact rfl); conv => whnf)
    | ((with_reducible refine cond_id ?_); (first | ((refine condKT rfl ?hy ?_); (case hy => first | assumption | exact notT (by assumption) | exact rfl)) | ((refine condKF rfl ?hy ?_); (case hy => first | assumption | exact notF (by assumption) | exact rfl)) | (revert hF; (with_reducible refine condF ?hx ?_ ?_); (case hx => exact rfl); all_goals (intro hc hF))))
    | ((with_reducible refine seq_nil ?_); (first | ((with_reducible refine hR _ ?_); clear R hR) | ((with_reducible refine hL _ ?_); clear L hL)))
    | ((with_reducible refine int_step ?_); conv => whnf)
    | ((with_reducible refine len_step ?_); conv => whnf)
    | with_reducible refine vc_block ?_
    | with_reducible refine vc_skip ?_
    | with_reducible refine vc_ret ?_
    | with_reducible refine vc_exit ?_
    | ((with_reducible refine vc_seqN [102000000020, 102000000019, 102000000018] ?hx ?_); (case hx => exact rfl))
    | (with_reducible refine vc_region (fun R hR => ?_))
    | fail
    | (revert hF; (refine Cf45_i101_c20 rfl rfl ?_ ?_); (intro hF); rotate_left; (intro out7 hF; unfold f45_i101_c20 at hF); rotate_right)
    | exact Zf45_i101_c20 hF ⟨_, rfl, rfl, rfl, rfl⟩ (by first | exact rfl | assumption | omega)
    | (revert hF; (refine Cf45_i101_c19 rfl rfl ?_ ?_); (intro hF); rotate_left; (intro out7' hF; unfold f45_i101_c19 at hF); rotate_right)
    | exact Zf45_i101_c19 hF ⟨_, rfl, rfl, rfl, rfl⟩ (by first | exact rfl | assumption | omega)
    | (revert hF; (refine Cf45_i101_c18 rfl rfl ?_ ?_); (intro hF); rotate_left; (intro out7'' hF; unfold f45_i101_c18 at hF); rotate_right)
    | exact Zf45_i101_c18 hF ⟨_, rfl, rfl, rfl, rfl⟩ (by first | exact rfl | assumption | omega)
    | (revert hF; (refine Lf45_i101_12 rfl ⟨_, rfl, rfl, rfl, rfl⟩ (by first | exact rfl | assumption | omega) ?_); intro n out7'' v29 hF; unfold f45_i101_12b at hF)
    | exact Mf45_i101_12 hF ⟨_, rfl, rfl, rfl, rfl⟩ (by first | exact rfl | assumption | omega)
    | (revert hF; (refine Lf45_i101_9 rfl ⟨_, rfl, rfl, rfl, rfl⟩ (by first | exact rfl | assumption | omega) ?_); intro n out7' v25 hF; unfold f45_i101_9b at hF)
    | exact Mf45_i101_9 hF ⟨_, rfl, rfl, rfl, rfl⟩ (by first | exact rfl | assumption | omega)
    | (revert hF; (refine Lf45_i101_6 rfl ⟨_, rfl, rfl, rfl, rfl⟩ (by first | exact rfl | assumption | omega) ?_); intro n out7 v20 hF; unfold f45_i101_6b at hF)
    | exact Mf45_i101_6 hF ⟨_, rfl, rfl, rfl, rfl⟩ (by first | exact rfl | assumption | omega)
    | (revert hF; (with_reducible refine G49.lend ?hx ?_); (case hx => exact rfl); intro v hF; conv => whnf)
    | (revert hF; (with_reducible refine G59.lend ?hx ?_); (case hx => exact rfl); intro v hF; conv => whnf)
    | (revert hF; (with_reducible refine G79.step ?hx ?_); (case hx => exact rfl); intro v hF; conv => whnf)
    | (revert hF; (with_reducible refine G96.lend ?hx ?_); (case hx => exact rfl); intro v hF; conv => whnf)
    | (revert hF; (refine G95.step rfl rfl (by first | exact rfl | assumption | omega) rfl ?hn ?_); (case hn => exact rfl); intro v hF; conv => whnf)
    | ((with_reducible have hG := keep_fact hF); have hk := hG.1; have hF := hG.2; clear hG)
    | with_reducible refine k_seq_ret ?_
    | with_reducible refine k_seq_exit ?_
    | with_reducible refine k_blk ?_
    | with_reducible refine k_blk_ret ?_
    | with_reducible refine k_blk_here ?_
    | ((with_reducible refine k_blk_out ?hx ?_); (case hx => exact rfl))
    | with_reducible refine k_loop_ret ?_
    | with_reducible refine k_loop_exit ?_
    | ((with_reducible have hG := app_fact hF); clear hF; (first | ((refine app_row hG ?hn ?hs (fun q hF => ?_)); (case hn => first | exact rfl | assumption | omega); (case hs => exact rfl)) | ((refine app_nil (d := Spot.d) hG ?hs (fun q hF => ?_)); (case hs => exact rfl)) | ((refine app_gen (d := Spot.d) hG ?ho ?hn ?hs (fun q hF => ?_)); (case ho => exact rfl); (case hn => exact rfl); (case hs => exact rfl))); clear hG; conv => whnf)
    | ((refine row_all ?hn ?_); (case hn => first | exact rfl | (simp; done) | (simp; omega)); conv => whnf)
    | ((with_reducible refine le_step ?hn ?_); (case hn => first | exact rfl | assumption | omega); conv => whnf)
    | ((refine ⟨?hx, ?_⟩); (case hx => exact ⟨rfl, Nat.le_of_ble_eq_true rfl, rfl⟩); conv => whnf)
    | ((with_reducible refine ex_step ?_); conv => whnf)
    | ((with_reducible refine both_T ?hx ?_); (case hx => first | exact rfl | assumption | exact notT (by assumption)); conv => whnf)
    | ((with_reducible refine both_F ?hx ?_); (case hx => first | exact rfl | assumption | exact notF (by assumption)); conv => whnf)
    | (revert hF; (with_reducible refine ite_step ?_ ?_) <;> (intro hc hF; conv => whnf))
    | ((with_reducible refine vc_condT ?hx ?_); (case hx => exact rfl))
    | ((with_reducible refine vc_condF ?hx ?_); (case hx => exact rfl))
    | (show retD _ _ _ _ _ _; conv => whnf)
    | ((refine inl_step ?ha ?hb ?hc rfl ?_); (case ha => exact rfl); (case hb => omega); (case hc => exact Nat.le_of_ble_eq_true rfl))
    | (show Kinl _ _ _ _ _ _ _; conv => whnf)
    | ((with_reducible refine kinl_step ?ha ?hb ?_); (case ha => exact rfl); (case hb => exact rfl); conv => whnf)
    | ((refine ⟨?hx, trivial⟩); (case hx => (cases hF; exact rfl)))
    | ((refine ⟨?hx, ?_⟩); (case hx => decide); conv => whnf)
    | ((with_reducible refine k_seq ?_))
    | (have hF : (none : Option _) = some _ := hF; cases hF))
end
end Go.Vc
namespace Go.Vc
open Go.Proofs
set_option linter.unusedVariables false
set_option linter.unnecessarySimpa false
set_option linter.unusedSimpArgs false
section
variable {c : Ctx} {p nid : Nat} {a b : Code} {st : St} {K : Ex → St → Prop}
/- f14: tusche/tuschelaw01.SerialKnown -/
def f14 (N : Nat) : Option (Bool) :=
 (f41 N (4 : Int) (1 : Int)).bind fun x1 =>
 (f41 N (4 : Int) (2 : Int)).bind fun x2 =>
 (f43 N x1.1).bind fun x3 =>
 (f45 N x1.1).bind fun x4 =>
 (f16 N (strC [48, 48, 55])).bind fun x5 =>
 (f16 N (strC [45, 49])).bind fun x6 =>
 (f55 N ).bind fun x7 =>
 (f56 N [(1 : Int), (2 : Int)]).bind fun x8 =>
 (f23 N x7 x8).bind fun x9 =>
 bif decide (¬ x1.2 = (0 : Int)) then (some (false))
 else (bif decide (¬ x2.2 = (12 : Int)) then (some (false))
 else (bif decide (¬ x3.2 = (0 : Int)) then (some (false))
 else (bif decide (¬ x4.2 = (0 : Int)) then (some (false))
 else (bif decide (¬ x9.2 = (0 : Int)) then (some (false))
 else (bif decide (¬ (List.length x3.1 : Int) = (24 : Int)) then (some (false))
 else (bif decide (¬ (List.length x4.1 : Int) = (8 : Int)) then (some (false))
 else ((ix x3.1 (0 : Int)).bind fun x10 =>
 bif (decide (x10.State = (0 : Int)) && (decide (x10.A = (0 : Int)) && (decide (x10.B = (1 : Int)) && true))) then ((ix x4.1 (0 : Int)).bind fun x11 =>
 bif (decide (x11.State = (0 : Int)) && (decide (x11.A = (0 : Int)) && (decide (x11.B = (2 : Int)) && true))) then (bif !x5.2 then (bif !x6.2 then (bif decide (x9.1 = (2 : Int)) then ((f49 N [[(0 : Int), (1 : Int)], [(0 : Int), (1 : Int)]]).bind fun x12 =>
 bif decide (x12 = (6 : Int)) then ((f15 N ).bind fun x13 =>
 some (x13))
 else (some (false)))
 else (some (false)))
 else (some (false)))
 else (some (false)))
 else (some (false)))
 else (some (false)))))))))
def G14 (ds : List D) (d : D) : Prop := ∃ (N : Nat) (r : Bool), ds = [] ∧ f14 N  = some r ∧ d = bN r
theorem G14.lend {N : Nat} {ρ : Type} {A : Bool → Option ρ} {q : ρ} {ds : List D} {K : D → Prop} (hd : ds = []) (h : ∀ r, A r = some q → K (bN r)) (hF : (f14 N ).bind A = some q) : ∃ d, (G14 ds d ∧ d.flatB = true) ∧ K d := by
  obtain ⟨r, hr, hA⟩ := bind_some hF
  exact ⟨_, ⟨⟨N, r, hd, hr, rfl⟩, rfl⟩, h r hA⟩
theorem G14.step {N : Nat} {ρ : Type} {A : Bool → Option ρ} {q : ρ} {ds : List D} {K : D → Prop} (hd : ds = []) (h : ∀ r, A r = some q → K (bN r)) (hF : (f14 N ).bind A = some q) : ∃ d, G14 ds d ∧ K d := by
  obtain ⟨r, hr, hA⟩ := bind_some hF
  exact ⟨_, ⟨N, r, hd, hr, rfl⟩, h r hA⟩
set_option maxRecDepth 20000 in
set_option maxHeartbeats 4000000 in
theorem P14 : PureOK Try.prog 14 G14 := by
  refine pure_of_vc (c := mkCtx tyTree [(56, true, purePg [[1]] G56), (55, true, purePg [] G55), (49, true, lendPg [[1]] G49), (45, true, purePg [[1]] G45), (43, true, purePg [[1]] G43), (41, true, purePg [[0], [0]] G41), (23, true, lendPg [[1], [1]] G23), (16, true, lendPg [[0]] G16), (15, true, lendPg [] G15)]) rfl tyOK (ctx_cons (callable Try.func56 rfl rfl) P56 (ctx_cons (callable Try.func55 rfl rfl) P55 (ctx_lend (callable Try.func49 rfl rfl) P49 (ctx_cons (callable Try.func45 rfl rfl) P45 (ctx_cons (callable Try.func43 rfl rfl) P43 (ctx_cons (callable Try.func41 rfl rfl) P41 (ctx_lend (callable Try.func23 rfl rfl) P23 (ctx_lend (callable Try.func16 rfl rfl) P16 (ctx_lend (callable Try.func15 rfl rfl) P15 (ctx_nil)))))))))) [[0]] 0 Try.func14 rfl rfl (by decide) (by kernel_rfl) ?_
  rintro ds d ⟨N, r, rfl, hF, rfl⟩ hok
  clear hok
  refine ⟨rfl, ?_⟩
  show vc _ _ _ _ ⟨[], []⟩ _
  unfold f14 at hF
  repeat' (first
    | ((with_reducible refine q0 _ _ ?_); clear Q q0 q1 q2)
    | ((with_reducible refine q1 _ _ _ _ ?_); clear Q q0 q1 q2)
    | ((with_reducible refine q2 _ _ _ ?_); clear Q q0 q1 q2)
    | ((with_reducible refine seq_op ?hx (fun Q q0 q1 q2 => ?_)); (case hx => exact rfl); conv => whnf)
    | ((with_reducible refine seq_off ?hx ?_); (case hx => exact rfl))
    | ((with_reducible refine seq_off0 ?hx ?_); (case hx => exact rfl))
    | ((with_reducible refine seq_id ?_); (first | ((refine seq_opK rfl ?hy (fun Q q0 q1 q2 => ?_)); (case hy => first | assumption | exact notT (by assumption) | exact rfl); conv => whnf) | ((refine seq_offK rfl ?hy ?_); (case hy => first | assumption | exact notF (by assumption) | exact rfl)) | ((refine seq_opK0 rfl ?hy (fun Q q0 q1 q2 => ?_)); (case hy => first | assumption | exact notT (by assumption) | exact rfl); conv => whnf) | ((refine seq_offK0 rfl ?hy ?_); (case hy => first | assumption | exact notF (by assumption) | exact rfl)) | (revert hF; (with_reducible refine seq_opF ?hx ?_ ?_); (case hx => exact rfl); (intro hc hF Q q0 q1 q2; conv => whnf); rotate_left; (intro hc hF); rotate_right) | (revert hF; (with_reducible refine seq_opN ?hx ?_ ?_); (case hx => exact rfl); (intro hc hF); rotate_left; (intro hc hF Q q0 q1 q2; conv => whnf); rotate_right) | (revert hF; (with_reducible refine seq_opF0 ?hx ?_ ?_); (case hx => exact rfl); (intro hc hF Q q0 q1 q2; conv => whnf); rotate_left; (intro hc hF); rotate_right) | (revert hF; (with_reducible refine seq_opN0 ?hx ?_ ?_); (case hx => exact rfl); (intro hc hF); rotate_left; (intro hc hF Q q0 q1 q2; conv => whnf); rotate_right)))
    | ((with_reducible refine cond_id ?_); (first | ((refine condKT rfl ?hy ?_); (case hy => first | assumption | exact notT (by assumption) | exact rfl)) | ((refine condKF rfl ?hy ?_); (case hy => first | assumption | exact notF (by assumption) | exact rfl)) | (revert hF; (with_reducible refine condF ?hx ?_ ?_); (case hx => exact rfl); all_goals (intro hc hF))))
    | ((with_reducible refine seq_nil ?_); (first | ((with_reducible refine hR _ ?_); clear R hR) | ((with_reducible refine hL _ ?_); clear L hL)))
    | ((with_reducible refine int_step ?_); conv => whnf)
    | ((with_reducible refine len_step ?_); conv => whnf)
    | ((with_reducible refine idx2 (by assumption) ?_); conv => whnf)
    | ((with_reducible refine idx3 (by assumption) ?_); conv => whnf)
    | with_reducible refine vc_block ?_
    | with_reducible refine vc_skip ?_
    | with_reducible refine vc_ret ?_
    | with_reducible refine vc_exit ?_
    | ((with_reducible refine vc_seqN [] ?hx ?_); (case hx => exact rfl))
    | (with_reducible refine vc_region (fun R hR => ?_))
    | fail
    | (revert hF; (with_reducible refine G15.lend ?hx ?_); (case hx => exact rfl); intro v hF; conv => whnf)
    | (revert hF; (with_reducible refine G16.lend ?hx ?_); (case hx => exact rfl); intro v hF; conv => whnf)
    | (revert hF; (with_reducible refine G23.lend ?hx ?_); (case hx => exact rfl); intro v hF; conv => whnf)
    | (revert hF; (with_reducible refine G41.step ?hx ?_); (case hx => exact rfl); intro v hF; conv => whnf)
    | (revert hF; (with_reducible refine G43.step ?hx ?_); (case hx => exact rfl); intro v hF; conv => whnf)
    | (revert hF; (with_reducible refine G45.step ?hx ?_); (case hx => exact rfl); intro v hF; conv => whnf)
    | (revert hF; (with_reducible refine G49.lend ?hx ?_); (case hx => exact rfl); intro v hF; conv => whnf)
    | (revert hF; (with_reducible refine G55.step ?hx ?_); (case hx => exact rfl); intro v hF; conv => whnf)
    | (revert hF; (with_reducible refine G56.step ?hx ?_); (case hx => exact rfl); intro v hF; conv => whnf)
    | with_reducible refine k_seq_ret ?_
    | with_reducible refine k_seq_exit ?_
    | with_reducible refine k_blk ?_
    | with_reducible refine k_blk_ret ?_
    | with_reducible refine k_blk_here ?_
    | ((with_reducible refine k_blk_out ?hx ?_); (case hx => exact rfl))
    | (revert hF; (with_reducible refine idx1 ?hn ?_); (case hn => first | exact rfl | exact (List.length_map _) | assumption | omega | simp); intro x hx hF; conv => whnf)
    | ((refine row_all ?hn ?_); (case hn => first | exact rfl | (simp; done) | (simp; omega)); conv => whnf)
    | ((with_reducible refine le_step ?hn ?_); (case hn => first | exact rfl | assumption | omega); conv => whnf)
    | ((refine ⟨?hx, ?_⟩); (case hx => exact ⟨rfl, Nat.le_of_ble_eq_true rfl, rfl⟩); conv => whnf)
    | ((with_reducible refine ex_step ?_); conv => whnf)
    | ((with_reducible refine both_T ?hx ?_); (case hx => first | exact rfl | assumption | exact notT (by assumption)); conv => whnf)
    | ((with_reducible refine both_F ?hx ?_); (case hx => first | exact rfl | assumption | exact notF (by assumption)); conv => whnf)
    | (revert hF; (with_reducible refine ite_step ?_ ?_) <;> (intro hc hF; conv => whnf))
    | ((with_reducible refine vc_condT ?hx ?_); (case hx => exact rfl))
    | ((with_reducible refine vc_condF ?hx ?_); (case hx => exact rfl))
    | (show retD _ _ _ _ _ _; conv => whnf)
    | ((refine ⟨?hx, trivial⟩); (case hx => (cases hF; exact rfl)))
    | ((refine ⟨?hx, ?_⟩); (case hx => decide); conv => whnf)
    | ((with_reducible refine k_seq ?_))
    | (have hF : (none : Option _) = some _ := hF; cases hF))
end
end Go.Vc

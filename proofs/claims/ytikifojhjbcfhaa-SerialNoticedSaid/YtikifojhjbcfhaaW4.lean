/-
  A library for proofs about Go functions by symbolic evaluation, and plain Lean functions that the walked Go functions compute (written by a program of this claim).
-/
import Derived.Test.YtikifojhjbcfhaaW1
import Derived.Test.YtikifojhjbcfhaaW2
import Derived.Test.YtikifojhjbcfhaaW3
namespace Go.Vc
open Go.Proofs
set_option linter.unusedVariables false
set_option linter.unnecessarySimpa false
set_option linter.unusedSimpArgs false
section
variable {c : Ctx} {p nid : Nat} {a b : Code} {st : St} {K : Ex → St → Prop}
/- f105: slices.partitionCmpFunc[tusche/serial.Spot] -/
def f105_c21 (s0 : Int) (v13' : Int) (b0 : List Spot) : Option (Int × Bool × (List Spot)) :=
 (ix b0 s0).bind fun x19 =>
 (ix b0 (v13')).bind fun x20 =>
 (ix b0 (v13')).bind fun x21 =>
 (setx b0 (v13') x19).bind fun x22 =>
 (ix x22 s0).bind fun x23 =>
 (setx x22 s0 x20).bind fun x24 =>
 some (v13', false, x24)
def Lf105_c21 (s0 : Int) : Lp (Int × (List Spot)) (Nat) (Int × Bool × (List Spot)) := ⟨⟨[0, 1, 13], [0], [], []⟩, fun (v13', b0) => [.rs 0 (List.length b0), .dat (iN s0), .dat (iN (v13'))], fun (_, b0) => [.row 73 3 (List.map Spot.d b0)], fun (v13', b0) => f105_c21 s0 v13' b0, fun (v13', _) m0 => [.rs 0 m0, .dat (iN s0), .dat (iN (v13'))], fun (_, b0) _ => [.row 73 3 (List.map Spot.d b0)], fun (_, b0) => List.length b0, fun _ => rfl, fun _ => rfl⟩
theorem Ef105_c21 {s0 v13' b0} : (Lf105_c21 s0).E (v13', b0) = f105_c21 s0 v13' b0 := rfl
def f105_c17 (s0 : Int) (k0 : Int → (List Spot) → Option (Int × Bool × (List Spot))) (b0 : List Spot) (r13 : Int → Int → (List Spot) → Option (Int × Bool × (List Spot))) (v12'' : Int) (v13'' : Int) : Option (Int × Bool × (List Spot)) :=
 bif decide ((v13'') < (v12'')) then (k0 (v13'') b0)
 else ((ix b0 (v13'')).bind fun x25 =>
 (ix b0 (v12'')).bind fun x26 =>
 (ix b0 (v12'')).bind fun x27 =>
 (setx b0 (v12'') x25).bind fun x28 =>
 (ix x28 (v13'')).bind fun x29 =>
 (setx x28 (v13'') x26).bind fun x30 =>
 r13 (W ((v12'') + (1 : Int))) (W ((v13'') - (1 : Int))) x30)
def Lf105_c17 (s0 : Int) (k0 : Int → (List Spot) → Option (Int × Bool × (List Spot))) (b0 : List Spot) (r13 : Int → Int → (List Spot) → Option (Int × Bool × (List Spot))) (v12'' : Int) : Lp (Int) (Nat) (Int × Bool × (List Spot)) := ⟨⟨[0, 1, 4, 12, 13], [0], [], []⟩, fun v13'' => [.rs 0 (List.length b0), .dat (iN s0), .dat (.v (.func (.func 91) #[] #[])), .dat (iN (v12'')), .dat (iN (v13''))], fun _ => [.row 73 3 (List.map Spot.d b0)], fun v13'' => f105_c17 s0 k0 b0 r13 v12'' v13'', fun v13'' m0 => [.rs 0 m0, .dat (iN s0), .dat (.v (.func (.func 91) #[] #[])), .dat (iN (v12'')), .dat (iN (v13''))], fun _ _ => [.row 73 3 (List.map Spot.d b0)], fun _ => List.length b0, fun _ => rfl, fun _ => rfl⟩
theorem Ef105_c17 {s0 k0 b0 r13 v12'' v13''} : (Lf105_c17 s0 k0 b0 r13 v12'').E v13'' = f105_c17 s0 k0 b0 r13 v12'' v13'' := rfl
def f105_15b (r15 : Int → Option (Int × Bool × (List Spot))) (s0 : Int) (N : Nat) (b0 : List Spot) (v12'' : Int) (k1 : Int → Option (Int × Bool × (List Spot))) (v13'' : Int) : Option (Int × Bool × (List Spot)) :=
 bif decide ((v12'') ≤ (v13'')) then ((ix b0 (v13'')).bind fun x31 =>
 (ix b0 s0).bind fun x32 =>
 (f91 N x31 x32).bind fun x33 =>
 bif !(decide (x33 < (0 : Int))) then (r15 (W ((v13'') - (1 : Int))))
 else (k1 (v13'')))
 else (k1 (v13''))
def f105_15 (s0 : Int) (N : Nat) (b0 : List Spot) (v12'' : Int) (k1 : Int → Option (Int × Bool × (List Spot))) : Nat → Int → Option (Int × Bool × (List Spot))
  | 0, _ => none
  | n + 1, v13'' => f105_15b (f105_15 s0 N b0 v12'' k1 n) s0 N b0 v12'' k1 v13''
def Lf105_15 (s0 : Int) (N : Nat) (b0 : List Spot) (v12'' : Int) (k1 : Int → Option (Int × Bool × (List Spot))) : Lp (Nat × Int) (Nat) (Int × Bool × (List Spot)) := ⟨⟨[0, 1, 4, 12, 13], [0], [], []⟩, fun (_, v13'') => [.rs 0 (List.length b0), .dat (iN s0), .dat (.v (.func (.func 91) #[] #[])), .dat (iN (v12'')), .dat (iN (v13''))], fun (_, _) => [.row 73 3 (List.map Spot.d b0)], fun (n, v13'') => f105_15 s0 N b0 v12'' k1 n v13'', fun (_, v13'') m0 => [.rs 0 m0, .dat (iN s0), .dat (.v (.func (.func 91) #[] #[])), .dat (iN (v12'')), .dat (iN (v13''))], fun (_, _) _ => [.row 73 3 (List.map Spot.d b0)], fun (_, _) => List.length b0, fun _ => rfl, fun _ => rfl⟩
theorem Ef105_15 {s0 N b0 v12'' k1 n v13''} : (Lf105_15 s0 N b0 v12'' k1).E (n, v13'') = f105_15 s0 N b0 v12'' k1 n v13'' := rfl
def f105_c15 (s0 : Int) (N : Nat) (k0 : Int → (List Spot) → Option (Int × Bool × (List Spot))) (v13' : Int) (b0 : List Spot) (r13 : Int → Int → (List Spot) → Option (Int × Bool × (List Spot))) (v12'' : Int) : Option (Int × Bool × (List Spot)) :=
 joinK (f105_c17 s0 k0 b0 r13 v12'') fun k1 =>
 f105_15 s0 N b0 v12'' k1 N (v13')
def Lf105_c15 (s0 : Int) (N : Nat) (k0 : Int → (List Spot) → Option (Int × Bool × (List Spot))) (v13' : Int) (b0 : List Spot) (r13 : Int → Int → (List Spot) → Option (Int × Bool × (List Spot))) : Lp (Int) (Nat) (Int × Bool × (List Spot)) := ⟨⟨[0, 1, 4, 12, 13], [0], [], []⟩, fun v12'' => [.rs 0 (List.length b0), .dat (iN s0), .dat (.v (.func (.func 91) #[] #[])), .dat (iN (v12'')), .dat (iN (v13'))], fun _ => [.row 73 3 (List.map Spot.d b0)], fun v12'' => f105_c15 s0 N k0 v13' b0 r13 v12'', fun v12'' m0 => [.rs 0 m0, .dat (iN s0), .dat (.v (.func (.func 91) #[] #[])), .dat (iN (v12'')), .dat (iN (v13'))], fun _ _ => [.row 73 3 (List.map Spot.d b0)], fun _ => List.length b0, fun _ => rfl, fun _ => rfl⟩
theorem Ef105_c15 {s0 N k0 v13' b0 r13 v12''} : (Lf105_c15 s0 N k0 v13' b0 r13).E v12'' = f105_c15 s0 N k0 v13' b0 r13 v12'' := rfl
def f105_13_1b (r13x : Int → Option (Int × Bool × (List Spot))) (s0 : Int) (N : Nat) (v13' : Int) (b0 : List Spot) (k2 : Int → Option (Int × Bool × (List Spot))) (v12'' : Int) : Option (Int × Bool × (List Spot)) :=
 bif decide ((v12'') ≤ (v13')) then ((ix b0 (v12'')).bind fun x34 =>
 (ix b0 s0).bind fun x35 =>
 (f91 N x34 x35).bind fun x36 =>
 bif decide (x36 < (0 : Int)) then (r13x (W ((v12'') + (1 : Int))))
 else (k2 (v12'')))
 else (k2 (v12''))
def f105_13_1 (s0 : Int) (N : Nat) (v13' : Int) (b0 : List Spot) (k2 : Int → Option (Int × Bool × (List Spot))) : Nat → Int → Option (Int × Bool × (List Spot))
  | 0, _ => none
  | n + 1, v12'' => f105_13_1b (f105_13_1 s0 N v13' b0 k2 n) s0 N v13' b0 k2 v12''
def Lf105_13_1 (s0 : Int) (N : Nat) (v13' : Int) (b0 : List Spot) (k2 : Int → Option (Int × Bool × (List Spot))) : Lp (Nat × Int) (Nat) (Int × Bool × (List Spot)) := ⟨⟨[0, 1, 4, 12, 13], [0], [], []⟩, fun (_, v12'') => [.rs 0 (List.length b0), .dat (iN s0), .dat (.v (.func (.func 91) #[] #[])), .dat (iN (v12'')), .dat (iN (v13'))], fun (_, _) => [.row 73 3 (List.map Spot.d b0)], fun (n, v12'') => f105_13_1 s0 N v13' b0 k2 n v12'', fun (_, v12'') m0 => [.rs 0 m0, .dat (iN s0), .dat (.v (.func (.func 91) #[] #[])), .dat (iN (v12'')), .dat (iN (v13'))], fun (_, _) _ => [.row 73 3 (List.map Spot.d b0)], fun (_, _) => List.length b0, fun _ => rfl, fun _ => rfl⟩
theorem Ef105_13_1 {s0 N v13' b0 k2 n v12''} : (Lf105_13_1 s0 N v13' b0 k2).E (n, v12'') = f105_13_1 s0 N v13' b0 k2 n v12'' := rfl
def f105_13b (r13 : Int → Int → (List Spot) → Option (Int × Bool × (List Spot))) (s0 : Int) (N : Nat) (k0 : Int → (List Spot) → Option (Int × Bool × (List Spot))) (v12' : Int) (v13' : Int) (b0 : List Spot) : Option (Int × Bool × (List Spot)) :=
 joinK (f105_c15 s0 N k0 v13' b0 r13) fun k2 =>
 f105_13_1 s0 N v13' b0 k2 N (v12')
def f105_13 (s0 : Int) (N : Nat) (k0 : Int → (List Spot) → Option (Int × Bool × (List Spot))) : Nat → Int → Int → (List Spot) → Option (Int × Bool × (List Spot))
  | 0, _, _, _ => none
  | n + 1, v12', v13', b0 => f105_13b (f105_13 s0 N k0 n) s0 N k0 v12' v13' b0
def Lf105_13 (s0 : Int) (N : Nat) (k0 : Int → (List Spot) → Option (Int × Bool × (List Spot))) : Lp (Nat × Int × Int × (List Spot)) (Nat) (Int × Bool × (List Spot)) := ⟨⟨[0, 1, 4, 12, 13], [0], [], []⟩, fun (_, v12', v13', b0) => [.rs 0 (List.length b0), .dat (iN s0), .dat (.v (.func (.func 91) #[] #[])), .dat (iN (v12')), .dat (iN (v13'))], fun (_, _, _, b0) => [.row 73 3 (List.map Spot.d b0)], fun (n, v12', v13', b0) => f105_13 s0 N k0 n v12' v13' b0, fun (_, v12', v13', _) m0 => [.rs 0 m0, .dat (iN s0), .dat (.v (.func (.func 91) #[] #[])), .dat (iN (v12')), .dat (iN (v13'))], fun (_, _, _, b0) _ => [.row 73 3 (List.map Spot.d b0)], fun (_, _, _, b0) => List.length b0, fun _ => rfl, fun _ => rfl⟩
theorem Ef105_13 {s0 N k0 n v12' v13' b0} : (Lf105_13 s0 N k0).E (n, v12', v13', b0) = f105_13 s0 N k0 n v12' v13' b0 := rfl
def f105_c7 (s0 : Int) (N : Nat) (x6 : List Spot) (v12 : Int) (v13 : Int) : Option (Int × Bool × (List Spot)) :=
 bif decide (v13 < v12) then ((ix x6 s0).bind fun x7 =>
 (ix x6 v13).bind fun x8 =>
 (ix x6 v13).bind fun x9 =>
 (setx x6 v13 x7).bind fun x10 =>
 (ix x10 s0).bind fun x11 =>
 (setx x10 s0 x8).bind fun x12 =>
 some (v13, true, x12))
 else ((ix x6 v13).bind fun x13 =>
 (ix x6 v12).bind fun x14 =>
 (ix x6 v12).bind fun x15 =>
 (setx x6 v12 x13).bind fun x16 =>
 (ix x16 v13).bind fun x17 =>
 (setx x16 v13 x14).bind fun x18 =>
 joinK (f105_c21 s0) fun k0 =>
 f105_13 s0 N k0 N (W (v12 + (1 : Int))) (W (v13 - (1 : Int))) x18)
def Lf105_c7 (s0 : Int) (N : Nat) (x6 : List Spot) (v12 : Int) : Lp (Int) (Nat) (Int × Bool × (List Spot)) := ⟨⟨[0, 1, 4, 12, 13], [0], [], []⟩, fun v13 => [.rs 0 (List.length x6), .dat (iN s0), .dat (.v (.func (.func 91) #[] #[])), .dat (iN v12), .dat (iN v13)], fun _ => [.row 73 3 (List.map Spot.d x6)], fun v13 => f105_c7 s0 N x6 v12 v13, fun v13 m0 => [.rs 0 m0, .dat (iN s0), .dat (.v (.func (.func 91) #[] #[])), .dat (iN v12), .dat (iN v13)], fun _ _ => [.row 73 3 (List.map Spot.d x6)], fun _ => List.length x6, fun _ => rfl, fun _ => rfl⟩
theorem Ef105_c7 {s0 N x6 v12 v13} : (Lf105_c7 s0 N x6 v12).E v13 = f105_c7 s0 N x6 v12 v13 := rfl
def f105_5b (r5 : Int → Option (Int × Bool × (List Spot))) (s0 : Int) (N : Nat) (x6 : List Spot) (v12 : Int) (k3 : Int → Option (Int × Bool × (List Spot))) (v13 : Int) : Option (Int × Bool × (List Spot)) :=
 bif decide (v12 ≤ v13) then ((ix x6 v13).bind fun x37 =>
 (ix x6 s0).bind fun x38 =>
 (f91 N x37 x38).bind fun x39 =>
 bif !(decide (x39 < (0 : Int))) then (r5 (W (v13 - (1 : Int))))
 else (k3 v13))
 else (k3 v13)
def f105_5 (s0 : Int) (N : Nat) (x6 : List Spot) (v12 : Int) (k3 : Int → Option (Int × Bool × (List Spot))) : Nat → Int → Option (Int × Bool × (List Spot))
  | 0, _ => none
  | n + 1, v13 => f105_5b (f105_5 s0 N x6 v12 k3 n) s0 N x6 v12 k3 v13
def Lf105_5 (s0 : Int) (N : Nat) (x6 : List Spot) (v12 : Int) (k3 : Int → Option (Int × Bool × (List Spot))) : Lp (Nat × Int) (Nat) (Int × Bool × (List Spot)) := ⟨⟨[0, 1, 4, 12, 13], [0], [], []⟩, fun (_, v13) => [.rs 0 (List.length x6), .dat (iN s0), .dat (.v (.func (.func 91) #[] #[])), .dat (iN v12), .dat (iN v13)], fun (_, _) => [.row 73 3 (List.map Spot.d x6)], fun (n, v13) => f105_5 s0 N x6 v12 k3 n v13, fun (_, v13) m0 => [.rs 0 m0, .dat (iN s0), .dat (.v (.func (.func 91) #[] #[])), .dat (iN v12), .dat (iN v13)], fun (_, _) _ => [.row 73 3 (List.map Spot.d x6)], fun (_, _) => List.length x6, fun _ => rfl, fun _ => rfl⟩
theorem Ef105_5 {s0 N x6 v12 k3 n v13} : (Lf105_5 s0 N x6 v12 k3).E (n, v13) = f105_5 s0 N x6 v12 k3 n v13 := rfl
def f105_c5 (s0 : Int) (s1 : Int) (N : Nat) (x6 : List Spot) (v12 : Int) : Option (Int × Bool × (List Spot)) :=
 joinK (f105_c7 s0 N x6 v12) fun k3 =>
 f105_5 s0 N x6 v12 k3 N (W (s1 - (1 : Int)))
def Lf105_c5 (s0 : Int) (s1 : Int) (N : Nat) (x6 : List Spot) : Lp (Int) (Nat) (Int × Bool × (List Spot)) := ⟨⟨[0, 1, 4, 12, 13], [0], [], []⟩, fun v12 => [.rs 0 (List.length x6), .dat (iN s0), .dat (.v (.func (.func 91) #[] #[])), .dat (iN v12), .dat (iN (W (s1 - (1 : Int))))], fun _ => [.row 73 3 (List.map Spot.d x6)], fun v12 => f105_c5 s0 s1 N x6 v12, fun v12 m0 => [.rs 0 m0, .dat (iN s0), .dat (.v (.func (.func 91) #[] #[])), .dat (iN v12), .dat (iN (W (s1 - (1 : Int))))], fun _ _ => [.row 73 3 (List.map Spot.d x6)], fun _ => List.length x6, fun _ => rfl, fun _ => rfl⟩
theorem Ef105_c5 {s0 s1 N x6 v12} : (Lf105_c5 s0 s1 N x6).E v12 = f105_c5 s0 s1 N x6 v12 := rfl
def f105_3b (r3 : Int → Option (Int × Bool × (List Spot))) (s0 : Int) (s1 : Int) (N : Nat) (x6 : List Spot) (k4 : Int → Option (Int × Bool × (List Spot))) (v12 : Int) : Option (Int × Bool × (List Spot)) :=
 bif decide (v12 ≤ (W (s1 - (1 : Int)))) then ((ix x6 v12).bind fun x40 =>
 (ix x6 s0).bind fun x41 =>
 (f91 N x40 x41).bind fun x42 =>
 bif decide (x42 < (0 : Int)) then (r3 (W (v12 + (1 : Int))))
 else (k4 v12))
 else (k4 v12)
def f105_3 (s0 : Int) (s1 : Int) (N : Nat) (x6 : List Spot) (k4 : Int → Option (Int × Bool × (List Spot))) : Nat → Int → Option (Int × Bool × (List Spot))
  | 0, _ => none
  | n + 1, v12 => f105_3b (f105_3 s0 s1 N x6 k4 n) s0 s1 N x6 k4 v12
def Lf105_3 (s0 : Int) (s1 : Int) (N : Nat) (x6 : List Spot) (k4 : Int → Option (Int × Bool × (List Spot))) : Lp (Nat × Int) (Nat) (Int × Bool × (List Spot)) := ⟨⟨[0, 1, 4, 12, 13], [0], [], []⟩, fun (_, v12) => [.rs 0 (List.length x6), .dat (iN s0), .dat (.v (.func (.func 91) #[] #[])), .dat (iN v12), .dat (iN (W (s1 - (1 : Int))))], fun (_, _) => [.row 73 3 (List.map Spot.d x6)], fun (n, v12) => f105_3 s0 s1 N x6 k4 n v12, fun (_, v12) m0 => [.rs 0 m0, .dat (iN s0), .dat (.v (.func (.func 91) #[] #[])), .dat (iN v12), .dat (iN (W (s1 - (1 : Int))))], fun (_, _) _ => [.row 73 3 (List.map Spot.d x6)], fun (_, _) => List.length x6, fun _ => rfl, fun _ => rfl⟩
theorem Ef105_3 {s0 s1 N x6 k4 n v12} : (Lf105_3 s0 s1 N x6 k4).E (n, v12) = f105_3 s0 s1 N x6 k4 n v12 := rfl
def f105b (self : Int → Int → Int → (List Spot) → Option (Int × Bool × (List Spot))) (N : Nat) (s0 : Int) (s1 : Int) (s2 : Int) (s3 : List Spot) : Option (Int × Bool × (List Spot)) :=
 (ix s3 s2).bind fun x1 =>
 (ix s3 s0).bind fun x2 =>
 (ix s3 s0).bind fun x3 =>
 (setx s3 s0 x1).bind fun x4 =>
 (ix x4 s2).bind fun x5 =>
 (setx x4 s2 x2).bind fun x6 =>
 joinK (f105_c5 s0 s1 N x6) fun k4 =>
 f105_3 s0 s1 N x6 k4 N (W (s0 + (1 : Int)))
def f105 : Nat → Int → Int → Int → (List Spot) → Option (Int × Bool × (List Spot))
  | 0, _, _, _, _ => none
  | N + 1, s0, s1, s2, s3 => f105b (f105 N) N s0 s1 s2 s3
def Af105 (s0 : Int) (s1 : Int) (s2 : Int) (s3 : List Spot) : List SV := [.rs 0 (List.length s3), .dat (iN s0), .dat (iN s1), .dat (iN s2), .dat (.v (.func (.func 91) #[] #[]))]
def Bf105 (s0 : Int) (s1 : Int) (s2 : Int) (s3 : List Spot) : List Blk := [.row 73 3 (List.map Spot.d s3)]
def Rf105 (y : Int × Bool × (List Spot)) : List SV := [.dat (iN y.1), .kb y.2.1]
def B1f105 (s0 : Int) (s1 : Int) (s2 : Int) (s3 : List Spot) (y : Int × Bool × (List Spot)) : List Blk := [.row 73 3 (List.map Spot.d y.2.2)]
def BZf105 (y : Int × Bool × (List Spot)) : Blk := .unborn
def Spf105 : Spec (Int × Int × Int × (List Spot)) (Int × Bool × (List Spot)) := ⟨1, fun x => Af105 x.1 x.2.1 x.2.2.1 x.2.2.2, fun x => Bf105 x.1 x.2.1 x.2.2.1 x.2.2.2, fun _ y => Rf105 y, fun x y => B1f105 x.1 x.2.1 x.2.2.1 x.2.2.2 y, fun _ y => BZf105 y⟩
def H105 (N : Nat) (x : Int × Int × Int × (List Spot)) (y : Int × Bool × (List Spot)) : Prop := f105 N x.1 x.2.1 x.2.2.1 x.2.2.2 = some y
def G105 (x : Int × Int × Int × (List Spot)) (y : Int × Bool × (List Spot)) : Prop := ∃ N, H105 N x y
theorem H105.step {N : Nat} {s0 : Int} {s1 : Int} {s2 : Int} {s3 : List Spot} {m0 : Nat} {ρ : Type} {A : (Int × Bool × (List Spot)) → Option ρ} {q : ρ} {xs : List SV} {id : Nat} {m : Nat → Blk} {l : List Loc} {K : Dl → List Loc → Prop} {k0 : Nat} (ha : xs = [.rs k0 m0, .dat (iN s0), .dat (iN s1), .dat (iN s2), .dat (.v (.func (.func 91) #[] #[]))]) (b0 : m k0 = .row 73 3 (List.map Spot.d s3)) (em0 : m0 = List.length s3) (hu : m id = .unborn) (hn : nodupB [k0] = true) (h : ∀ y, A y = some q → K ⟨.tup [.dat (iN y.1), .kb y.2.1], [(k0, .row 73 3 (List.map Spot.d y.2.2)), (id, .unborn)]⟩ l) (hF : (f105 N s0 s1 s2 s3).bind A = some q) : effPg Spf105 (H105 N) xs id (fun _ => SV.no) m l K := by
  subst em0; obtain ⟨y, hy, hA⟩ := bind_some hF
  exact eff_step [k0] (s0, s1, s2, s3) y _ hy rfl hn ha (by simp only [List.map_cons, List.map_nil, b0]; rfl) hu rfl rfl (h y hA)
theorem G105.step {N : Nat} {s0 : Int} {s1 : Int} {s2 : Int} {s3 : List Spot} {m0 : Nat} {ρ : Type} {A : (Int × Bool × (List Spot)) → Option ρ} {q : ρ} {xs : List SV} {id : Nat} {m : Nat → Blk} {l : List Loc} {K : Dl → List Loc → Prop} {k0 : Nat} (ha : xs = [.rs k0 m0, .dat (iN s0), .dat (iN s1), .dat (iN s2), .dat (.v (.func (.func 91) #[] #[]))]) (b0 : m k0 = .row 73 3 (List.map Spot.d s3)) (em0 : m0 = List.length s3) (hu : m id = .unborn) (hn : nodupB [k0] = true) (h : ∀ y, A y = some q → K ⟨.tup [.dat (iN y.1), .kb y.2.1], [(k0, .row 73 3 (List.map Spot.d y.2.2)), (id, .unborn)]⟩ l) (hF : (f105 N s0 s1 s2 s3).bind A = some q) : effPg Spf105 (G105) xs id (fun _ => SV.no) m l K := by
  subst em0; obtain ⟨y, hy, hA⟩ := bind_some hF
  exact eff_step [k0] (s0, s1, s2, s3) y _ ⟨N, hy⟩ rfl hn ha (by simp only [List.map_cons, List.map_nil, b0]; rfl) hu rfl rfl (h y hA)
def Srf105 : Ann := ⟨[0, 1], [0, 500], [], []⟩
set_option maxRecDepth 20000 in
set_option maxHeartbeats 4000000 in
theorem Q105 (N : Nat) : CallOK Try.prog 105 (effPg Spf105 (H105 N)) := by
  induction N with
  | zero => exact eff_none fun x y h => (by cases (show (none : Option (Int × Bool × (List Spot))) = some y from h))
  | succ N ih =>
    refine eff_of_vc (c := mkCtx tyTree [(105, false, effPg Spf105 (H105 N)), (91, true, lendPg [[0, 0, 0], [0, 0, 0]] G91)]) rfl tyOK (ctx_eff (callable Try.func105 rfl rfl) ih (ctx_lend (callable Try.func91 rfl rfl) P91 (ctx_nil))) 1000 500 Srf105 Try.func105 rfl rfl (by kernel_rfl) rfl rfl rfl rfl rfl (fun _ => rfl) (fun _ => rfl) (fun _ _ => ⟨rfl, rfl⟩) ?_
    rintro ⟨s0, s1, s2, s3⟩ y hF
    have hF : f105b (f105 N) N s0 s1 s2 s3 = some y := hF
    show vc _ _ _ _ ⟨[(0, .rs 0 (List.length s3)), (1, .dat (iN s0)), (2, .dat (iN s1)), (3, .dat (iN s2)), (4, .dat (.v (.func (.func 91) #[] #[])))], [(0, .row 73 3 (List.map Spot.d s3))]⟩ _
    unfold f105b at hF
    repeat' (first
      | ((with_reducible first | refine q0 _ _ ?_ | refine q1 _ _ _ _ ?_ | refine q2 _ _ _ ?_); clear Q q0 q1 q2)
      | ((with_reducible first | refine seq_op ?hx (fun Q q0 q1 q2 => ?_) | refine draw_op ?hx (fun Q q0 q1 q2 => ?_) | refine seq_op0 ?hx (fun Q q0 q1 q2 => ?_) | refine draw_op0 ?hx (fun Q q0 q1 q2 => ?_)); (case hx => exact rfl); conv => whnf)
      | ((with_reducible first | refine seq_off ?hx ?_ | refine seq_off0 ?hx ?_ | refine draw_off ?hx ?_ | refine draw_off0 ?hx ?_ | refine k_blk_out ?hx ?_ | refine vc_condT ?hx ?_); (case hx => exact rfl))
      | ((with_reducible refine draw_id ?_); (first | ((first | refine draw_opK rfl ?hy (fun Q q0 q1 q2 => ?_) | refine draw_opK0 rfl ?hy (fun Q q0 q1 q2 => ?_)); (case hy => first | assumption | exact notT (by assumption) | exact rfl); conv => whnf) | ((first | refine draw_offK rfl ?hy ?_ | refine draw_offK0 rfl ?hy ?_); (case hy => first | assumption | exact notF (by assumption) | exact rfl)) | (revert hF; (with_reducible first | refine draw_opF ?hx ?_ ?_ | refine draw_opF0 ?hx ?_ ?_); (case hx => exact rfl); (intro hc hF Q q0 q1 q2; conv => whnf); rotate_left; (intro hc hF); rotate_right) | (revert hF; (with_reducible first | refine draw_opN ?hx ?_ ?_ | refine draw_opN0 ?hx ?_ ?_); (case hx => exact rfl); (intro hc hF); rotate_left; (intro hc hF Q q0 q1 q2; conv => whnf); rotate_right)))
      | ((with_reducible refine cond_id ?_); (first | ((refine condKT rfl ?hy ?_); (case hy => first | assumption | exact notT (by assumption) | exact rfl)) | ((refine condKF rfl ?hy ?_); (case hy => first | assumption | exact notF (by assumption) | exact rfl)) | (revert hF; (with_reducible refine condF ?hx ?_ ?_); (case hx => exact rfl); all_goals (intro hc hF))))
      | ((with_reducible refine seq_nil ?_); (first | ((with_reducible refine hR _ ?_); clear R hR) | ((with_reducible refine hL _ ?_); clear L hL)))
      | ((with_reducible refine draw_nil ?_); (with_reducible refine hR _ _ ?hx ?_); (case hx => kernel_rfl); (first | clear R hR | clear hR))
      | ((with_reducible first | refine int_step ?_ | refine len_step ?_ | refine idx2 (by assumption) ?_ | refine idx3 (by assumption) ?_); conv => whnf)
      | (with_reducible first | refine vc_block ?_ | refine vc_skip ?_ | refine vc_ret ?_ | refine vc_exit ?_ | refine vc_region (fun R hR => ?_) | refine k_seq_ret ?_ | refine k_seq_exit ?_ | refine k_blk ?_ | refine k_blk_ret ?_ | refine k_blk_here ?_ | refine k_loop_ret ?_ | refine k_loop_exit ?_)
      | ((with_reducible refine vc_seqN [1000021, 1000017, 1000015, 1000007, 1000005] ?hx ?_); (case hx => exact rfl))
      | ((with_reducible refine vc_draw ?hx (fun R hR => ?_)); (case hx => exact rfl))
      | (revert hF; (refine Lp.cut1 Lf105_c21 f105_c21 1000021 rfl rfl ?_ ?_); (intro hF); rotate_left; (rintro ⟨v13', b0⟩ hF; dsimp only [Lf105_c21] at hF; unfold f105_c21 at hF); rotate_right)
      | exact Lp.head Ef105_c21 hF _ ⟨_, rfl, rfl, rfl, rfl⟩ (by first | exact rfl | ((try dsimp only [Lf105_c21]); first | assumption | omega | (simp only [List.length_set]; done)))
      | (revert hF; (refine Lp.cut5 Lf105_c17 f105_c17 1000017 rfl rfl ?_ ?_); (intro hF); rotate_left; (rintro v13'' hF; dsimp only [Lf105_c17] at hF; unfold f105_c17 at hF); rotate_right)
      | exact Lp.head Ef105_c17 hF _ ⟨_, rfl, rfl, rfl, rfl⟩ (by first | exact rfl | ((try dsimp only [Lf105_c17]); first | assumption | omega | (simp only [List.length_set]; done)))
      | (revert hF; (refine Lp.loop Ef105_15 _ rfl ⟨_, rfl, rfl, rfl, rfl⟩ (by first | exact rfl | ((try dsimp only [Lf105_15]); first | assumption | omega | (simp only [List.length_set]; done))) (fun _ => rfl) ?_); rintro n v13'' hF; dsimp only [Lf105_15, f105_15] at hF; unfold f105_15b at hF)
      | exact Lp.back Ef105_15 hF _ ⟨_, rfl, rfl, rfl, rfl⟩ (by first | exact rfl | ((try dsimp only [Lf105_15]); first | assumption | omega | (simp only [List.length_set]; done)))
      | (revert hF; (refine Lp.cut6 Lf105_c15 f105_c15 1000015 rfl rfl ?_ ?_); (intro hF); rotate_left; (rintro v12'' hF; dsimp only [Lf105_c15] at hF; unfold f105_c15 at hF); rotate_right)
      | exact Lp.head Ef105_c15 hF _ ⟨_, rfl, rfl, rfl, rfl⟩ (by first | exact rfl | ((try dsimp only [Lf105_c15]); first | assumption | omega | (simp only [List.length_set]; done)))
      | (revert hF; (refine Lp.loop Ef105_13_1 _ rfl ⟨_, rfl, rfl, rfl, rfl⟩ (by first | exact rfl | ((try dsimp only [Lf105_13_1]); first | assumption | omega | (simp only [List.length_set]; done))) (fun _ => rfl) ?_); rintro n v12'' hF; dsimp only [Lf105_13_1, f105_13_1] at hF; unfold f105_13_1b at hF)
      | exact Lp.back Ef105_13_1 hF _ ⟨_, rfl, rfl, rfl, rfl⟩ (by first | exact rfl | ((try dsimp only [Lf105_13_1]); first | assumption | omega | (simp only [List.length_set]; done)))
      | (revert hF; (refine Lp.loop Ef105_13 _ rfl ⟨_, rfl, rfl, rfl, rfl⟩ (by first | exact rfl | ((try dsimp only [Lf105_13]); first | assumption | omega | (simp only [List.length_set]; done))) (fun _ => rfl) ?_); rintro n ⟨v12', v13', b0⟩ hF; dsimp only [Lf105_13, f105_13] at hF; unfold f105_13b at hF)
      | exact Lp.back Ef105_13 hF _ ⟨_, rfl, rfl, rfl, rfl⟩ (by first | exact rfl | ((try dsimp only [Lf105_13]); first | assumption | omega | (simp only [List.length_set]; done)))
      | (revert hF; (refine Lp.cut4 Lf105_c7 f105_c7 1000007 rfl rfl ?_ ?_); (intro hF); rotate_left; (rintro v13 hF; dsimp only [Lf105_c7] at hF; unfold f105_c7 at hF); rotate_right)
      | exact Lp.head Ef105_c7 hF _ ⟨_, rfl, rfl, rfl, rfl⟩ (by first | exact rfl | ((try dsimp only [Lf105_c7]); first | assumption | omega | (simp only [List.length_set]; done)))
      | (revert hF; (refine Lp.loop Ef105_5 _ rfl ⟨_, rfl, rfl, rfl, rfl⟩ (by first | exact rfl | ((try dsimp only [Lf105_5]); first | assumption | omega | (simp only [List.length_set]; done))) (fun _ => rfl) ?_); rintro n v13 hF; dsimp only [Lf105_5, f105_5] at hF; unfold f105_5b at hF)
      | exact Lp.back Ef105_5 hF _ ⟨_, rfl, rfl, rfl, rfl⟩ (by first | exact rfl | ((try dsimp only [Lf105_5]); first | assumption | omega | (simp only [List.length_set]; done)))
      | (revert hF; (refine Lp.cut4 Lf105_c5 f105_c5 1000005 rfl rfl ?_ ?_); (intro hF); rotate_left; (rintro v12 hF; dsimp only [Lf105_c5] at hF; unfold f105_c5 at hF); rotate_right)
      | exact Lp.head Ef105_c5 hF _ ⟨_, rfl, rfl, rfl, rfl⟩ (by first | exact rfl | ((try dsimp only [Lf105_c5]); first | assumption | omega | (simp only [List.length_set]; done)))
      | (revert hF; (refine Lp.loop Ef105_3 _ rfl ⟨_, rfl, rfl, rfl, rfl⟩ (by first | exact rfl | ((try dsimp only [Lf105_3]); first | assumption | omega | (simp only [List.length_set]; done))) (fun _ => rfl) ?_); rintro n v12 hF; dsimp only [Lf105_3, f105_3] at hF; unfold f105_3b at hF)
      | exact Lp.back Ef105_3 hF _ ⟨_, rfl, rfl, rfl, rfl⟩ (by first | exact rfl | ((try dsimp only [Lf105_3]); first | assumption | omega | (simp only [List.length_set]; done)))
      | (revert hF; (with_reducible refine G91.lend ?hx ?_); (case hx => exact rfl); intro v hF; conv => whnf)
      | (revert hF; (refine H105.step rfl rfl (by first | exact rfl | assumption | omega | (simp only [List.length_set]; done)) rfl ?hn ?_); (case hn => exact rfl); intro v hF; conv => whnf)
      | (show retE _ _ _ _ _ _; conv => whnf)
      | (cases hF; exact ⟨rfl, rfl, rfl⟩)
      | (revert hF; (with_reducible refine idx1 ?hn ?_); (case hn => first | exact rfl | exact (List.length_map _) | assumption | omega | simp); intro x hx hF; conv => whnf)
      | ((refine row_all ?hn ?_); (case hn => first | exact rfl | (simp; done) | (simp; omega)); conv => whnf)
      | ((with_reducible refine le_step ?hn ?_); (case hn => first | exact rfl | assumption | omega); conv => whnf)
      | ((with_reducible have hG := setx_fact hF); clear hF; (refine setx_step hG ?hs (fun q hl hF => ?_)); (case hs => exact rfl); clear hG; conv => whnf)
      | ((refine ⟨?hx, ?_⟩); (case hx => exact ⟨rfl, Nat.le_of_ble_eq_true rfl, rfl⟩); conv => whnf)
      | ((with_reducible refine ex_step ?_); conv => whnf)
      | ((with_reducible refine both_T ?hx ?_); (case hx => first | exact rfl | assumption | exact notT (by assumption)); conv => whnf)
      | ((with_reducible refine both_F ?hx ?_); (case hx => first | exact rfl | assumption | exact notF (by assumption)); conv => whnf)
      | (revert hF; (with_reducible refine ite_step ?_ ?_) <;> (intro hc hF; conv => whnf))
      | ((with_reducible refine vc_condF ?hx ?_); (case hx => exact rfl))
      | (show retD _ _ _ _ _ _; conv => whnf)
      | ((refine ⟨?hx, trivial⟩); (case hx => (cases hF; exact rfl)))
      | ((refine ⟨?hx, ?_⟩); (case hx => decide); conv => whnf)
      | with_reducible refine k_seq ?_
      | (have hF : (none : Option _) = some _ := hF; cases hF))
theorem P105 : CallOK Try.prog 105 (effPg Spf105 G105) := eff_ex Q105
end
end Go.Vc
namespace Go.Vc
open Go.Proofs
set_option linter.unusedVariables false
set_option linter.unnecessarySimpa false
set_option linter.unusedSimpArgs false
section
variable {c : Ctx} {p nid : Nat} {a b : Code} {st : St} {K : Ex → St → Prop}
/- f95: slices.pdqsortCmpFunc[tusche/serial.Spot] -/
def f95_c20 (N : Nat) (self : Int → Int → Int → (List Spot) → Option ((List Spot))) (v1 : Int) (v2 : Int) (r2 : Int → Int → Int → Bool → Bool → (List Spot) → Option ((List Spot))) (v3' : Int) (v13 : Int) (b0''' : List Spot) : Option ((List Spot)) :=
 (f105 N v1 v2 v13 (b0''')).bind fun x6 =>
 (keepL (b0''') x6.2.2).bind fun x7 =>
 bif decide ((W (x6.1 - v1)) < (W (v2 - x6.1))) then ((self v1 x6.1 (v3') x7).bind fun x8 =>
 (keepL x7 x8).bind fun x9 =>
 r2 (W (x6.1 + (1 : Int))) v2 (v3') (decide ((W (Int.tdiv (W (v2 - v1)) (8 : Int))) ≤ (W (x6.1 - v1)))) x6.2.1 x9)
 else ((self (W (x6.1 + (1 : Int))) v2 (v3') x7).bind fun x10 =>
 (keepL x7 x10).bind fun x11 =>
 r2 v1 x6.1 (v3') (decide ((W (Int.tdiv (W (v2 - v1)) (8 : Int))) ≤ (W (v2 - x6.1)))) x6.2.1 x11)
def Lf95_c20 (N : Nat) (self : Int → Int → Int → (List Spot) → Option ((List Spot))) (v1 : Int) (v2 : Int) (r2 : Int → Int → Int → Bool → Bool → (List Spot) → Option ((List Spot))) (v3' : Int) (v13 : Int) (b0''' : List Spot) : Lp (Unit) (Nat) ((List Spot)) := ⟨⟨[0, 1, 2, 3, 4, 12, 13], [0], [], []⟩, fun _ => [.rs 0 (List.length (b0''')), .dat (iN v1), .dat (iN v2), .dat (iN (v3')), .dat (.v (.func (.func 91) #[] #[])), .dat (iN (W (v2 - v1))), .dat (iN v13)], fun _ => [.row 73 3 (List.map Spot.d (b0'''))], fun _ => f95_c20 N self v1 v2 r2 v3' v13 b0''', fun _ m0 => [.rs 0 m0, .dat (iN v1), .dat (iN v2), .dat (iN (v3')), .dat (.v (.func (.func 91) #[] #[])), .dat (iN (W (v2 - v1))), .dat (iN v13)], fun _ _ => [.row 73 3 (List.map Spot.d (b0'''))], fun _ => List.length (b0'''), fun _ => rfl, fun _ => rfl⟩
theorem Ef95_c20 {N self v1 v2 r2 v3' v13 b0'''} : (Lf95_c20 N self v1 v2 r2 v3' v13 b0''').E () = f95_c20 N self v1 v2 r2 v3' v13 b0''' := rfl
def f95_c17 (N : Nat) (self : Int → Int → Int → (List Spot) → Option ((List Spot))) (v1 : Int) (v2 : Int) (v10 : Bool) (v11 : Bool) (r2 : Int → Int → Int → Bool → Bool → (List Spot) → Option ((List Spot))) (v3' : Int) (v13 : Int) (b0''' : List Spot) : Option ((List Spot)) :=
 joinK (f95_c20 N self v1 v2 r2 v3' v13 b0''') fun k0 =>
 bif decide ((0 : Int) < v1) then ((ix (b0''') (W (v1 - (1 : Int)))).bind fun x12 =>
 (ix (b0''') v13).bind fun x13 =>
 (f91 N x12 x13).bind fun x14 =>
 bif !(decide (x14 < (0 : Int))) then ((f104 N v1 v2 v13 (b0''')).bind fun x15 =>
 (keepL (b0''') x15.2).bind fun x16 =>
 r2 x15.1 v2 (v3') v10 v11 x16)
 else k0)
 else k0
def Lf95_c17 (N : Nat) (self : Int → Int → Int → (List Spot) → Option ((List Spot))) (v1 : Int) (v2 : Int) (v10 : Bool) (v11 : Bool) (r2 : Int → Int → Int → Bool → Bool → (List Spot) → Option ((List Spot))) (v3' : Int) (v13 : Int) : Lp ((List Spot)) (Nat) ((List Spot)) := ⟨⟨[0, 1, 2, 3, 4, 10, 11, 12, 13], [0], [], []⟩, fun b0''' => [.rs 0 (List.length (b0''')), .dat (iN v1), .dat (iN v2), .dat (iN (v3')), .dat (.v (.func (.func 91) #[] #[])), .kb v10, .kb v11, .dat (iN (W (v2 - v1))), .dat (iN v13)], fun b0''' => [.row 73 3 (List.map Spot.d (b0'''))], fun b0''' => f95_c17 N self v1 v2 v10 v11 r2 v3' v13 b0''', fun _ m0 => [.rs 0 m0, .dat (iN v1), .dat (iN v2), .dat (iN (v3')), .dat (.v (.func (.func 91) #[] #[])), .kb v10, .kb v11, .dat (iN (W (v2 - v1))), .dat (iN v13)], fun b0''' _ => [.row 73 3 (List.map Spot.d (b0'''))], fun b0''' => List.length (b0'''), fun _ => rfl, fun _ => rfl⟩
theorem Ef95_c17 {N self v1 v2 v10 v11 r2 v3' v13 b0'''} : (Lf95_c17 N self v1 v2 v10 v11 r2 v3' v13).E b0''' = f95_c17 N self v1 v2 v10 v11 r2 v3' v13 b0''' := rfl
def f95_c15 (N : Nat) (self : Int → Int → Int → (List Spot) → Option ((List Spot))) (v1 : Int) (v2 : Int) (v10 : Bool) (v11 : Bool) (r2 : Int → Int → Int → Bool → Bool → (List Spot) → Option ((List Spot))) (v3' : Int) (v13 : Int) (v14 : Int) (b0'' : List Spot) : Option ((List Spot)) :=
 joinK (f95_c17 N self v1 v2 v10 v11 r2 v3' v13) fun k1 =>
 bif v10 then (bif v11 then (bif decide (v14 = (1 : Int)) then ((f103 N v1 v2 (b0'')).bind fun x17 =>
 (keepL (b0'') x17.2).bind fun x18 =>
 bif x17.1 then (some (x18))
 else (k1 x18))
 else (k1 (b0'')))
 else (k1 (b0'')))
 else (k1 (b0''))
def Lf95_c15 (N : Nat) (self : Int → Int → Int → (List Spot) → Option ((List Spot))) (v1 : Int) (v2 : Int) (v10 : Bool) (v11 : Bool) (r2 : Int → Int → Int → Bool → Bool → (List Spot) → Option ((List Spot))) (v3' : Int) : Lp (Int × Int × (List Spot)) (Nat) ((List Spot)) := ⟨⟨[0, 1, 2, 3, 4, 10, 11, 12, 13, 14], [0], [], []⟩, fun (v13, v14, b0'') => [.rs 0 (List.length (b0'')), .dat (iN v1), .dat (iN v2), .dat (iN (v3')), .dat (.v (.func (.func 91) #[] #[])), .kb v10, .kb v11, .dat (iN (W (v2 - v1))), .dat (iN v13), .dat (iN v14)], fun (_, _, b0'') => [.row 73 3 (List.map Spot.d (b0''))], fun (v13, v14, b0'') => f95_c15 N self v1 v2 v10 v11 r2 v3' v13 v14 b0'', fun (v13, v14, _) m0 => [.rs 0 m0, .dat (iN v1), .dat (iN v2), .dat (iN (v3')), .dat (.v (.func (.func 91) #[] #[])), .kb v10, .kb v11, .dat (iN (W (v2 - v1))), .dat (iN v13), .dat (iN v14)], fun (_, _, b0'') _ => [.row 73 3 (List.map Spot.d (b0''))], fun (_, _, b0'') => List.length (b0''), fun _ => rfl, fun _ => rfl⟩
theorem Ef95_c15 {N self v1 v2 v10 v11 r2 v3' v13 v14 b0''} : (Lf95_c15 N self v1 v2 v10 v11 r2 v3').E (v13, v14, b0'') = f95_c15 N self v1 v2 v10 v11 r2 v3' v13 v14 b0'' := rfl
def f95_c10 (N : Nat) (self : Int → Int → Int → (List Spot) → Option ((List Spot))) (v1 : Int) (v2 : Int) (v10 : Bool) (v11 : Bool) (r2 : Int → Int → Int → Bool → Bool → (List Spot) → Option ((List Spot))) (v3' : Int) (b0' : List Spot) : Option ((List Spot)) :=
 (f101 N v1 v2 (b0')).bind fun x5 =>
 joinK (f95_c15 N self v1 v2 v10 v11 r2 v3') fun k2 =>
 bif decide (x5.2 = (2 : Int)) then ((f102 N v1 v2 (b0')).bind fun x19 =>
 (keepL (b0') x19).bind fun x20 =>
 k2 (W ((W (v2 - (1 : Int))) - (W (x5.1 - v1)))) (1 : Int) x20)
 else (k2 x5.1 x5.2 (b0'))
def Lf95_c10 (N : Nat) (self : Int → Int → Int → (List Spot) → Option ((List Spot))) (v1 : Int) (v2 : Int) (v10 : Bool) (v11 : Bool) (r2 : Int → Int → Int → Bool → Bool → (List Spot) → Option ((List Spot))) : Lp (Int × (List Spot)) (Nat) ((List Spot)) := ⟨⟨[0, 1, 2, 3, 4, 10, 11, 12], [0], [], []⟩, fun (v3', b0') => [.rs 0 (List.length (b0')), .dat (iN v1), .dat (iN v2), .dat (iN (v3')), .dat (.v (.func (.func 91) #[] #[])), .kb v10, .kb v11, .dat (iN (W (v2 - v1)))], fun (_, b0') => [.row 73 3 (List.map Spot.d (b0'))], fun (v3', b0') => f95_c10 N self v1 v2 v10 v11 r2 v3' b0', fun (v3', _) m0 => [.rs 0 m0, .dat (iN v1), .dat (iN v2), .dat (iN (v3')), .dat (.v (.func (.func 91) #[] #[])), .kb v10, .kb v11, .dat (iN (W (v2 - v1)))], fun (_, b0') _ => [.row 73 3 (List.map Spot.d (b0'))], fun (_, b0') => List.length (b0'), fun _ => rfl, fun _ => rfl⟩
theorem Ef95_c10 {N self v1 v2 v10 v11 r2 v3' b0'} : (Lf95_c10 N self v1 v2 v10 v11 r2).E (v3', b0') = f95_c10 N self v1 v2 v10 v11 r2 v3' b0' := rfl
def f95_2b (r2 : Int → Int → Int → Bool → Bool → (List Spot) → Option ((List Spot))) (N : Nat) (self : Int → Int → Int → (List Spot) → Option ((List Spot))) (v1 : Int) (v2 : Int) (v3 : Int) (v10 : Bool) (v11 : Bool) (b0 : List Spot) : Option ((List Spot)) :=
 bif decide ((W (v2 - v1)) ≤ (12 : Int)) then ((f98 N v1 v2 b0).bind fun x1 =>
 (keepL b0 x1).bind fun x2 =>
 some (x2))
 else (bif decide (v3 = (0 : Int)) then ((f99 N v1 v2 b0).bind fun x3 =>
 (keepL b0 x3).bind fun x4 =>
 some (x4))
 else (joinK (f95_c10 N self v1 v2 v10 v11 r2) fun k3 =>
 bif !v10 then ((f100 N v1 v2 b0).bind fun x21 =>
 (keepL b0 x21).bind fun x22 =>
 k3 (W (v3 - (1 : Int))) x22)
 else (k3 v3 b0)))
def f95_2 (N : Nat) (self : Int → Int → Int → (List Spot) → Option ((List Spot))) : Nat → Int → Int → Int → Bool → Bool → (List Spot) → Option ((List Spot))
  | 0, _, _, _, _, _, _ => none
  | n + 1, v1, v2, v3, v10, v11, b0 => f95_2b (f95_2 N self n) N self v1 v2 v3 v10 v11 b0
def Lf95_2 (N : Nat) (self : Int → Int → Int → (List Spot) → Option ((List Spot))) : Lp (Nat × Int × Int × Int × Bool × Bool × (List Spot)) (Nat) ((List Spot)) := ⟨⟨[0, 1, 2, 3, 4, 10, 11], [0], [], []⟩, fun (_, v1, v2, v3, v10, v11, b0) => [.rs 0 (List.length b0), .dat (iN v1), .dat (iN v2), .dat (iN v3), .dat (.v (.func (.func 91) #[] #[])), .kb v10, .kb v11], fun (_, _, _, _, _, _, b0) => [.row 73 3 (List.map Spot.d b0)], fun (n, v1, v2, v3, v10, v11, b0) => f95_2 N self n v1 v2 v3 v10 v11 b0, fun (_, v1, v2, v3, v10, v11, _) m0 => [.rs 0 m0, .dat (iN v1), .dat (iN v2), .dat (iN v3), .dat (.v (.func (.func 91) #[] #[])), .kb v10, .kb v11], fun (_, _, _, _, _, _, b0) _ => [.row 73 3 (List.map Spot.d b0)], fun (_, _, _, _, _, _, b0) => List.length b0, fun _ => rfl, fun _ => rfl⟩
theorem Ef95_2 {N self n v1 v2 v3 v10 v11 b0} : (Lf95_2 N self).E (n, v1, v2, v3, v10, v11, b0) = f95_2 N self n v1 v2 v3 v10 v11 b0 := rfl
def f95b (self : Int → Int → Int → (List Spot) → Option ((List Spot))) (N : Nat) (s0 : Int) (s1 : Int) (s2 : Int) (s3 : List Spot) : Option ((List Spot)) :=
 f95_2 N self N s0 s1 s2 true true s3
def f95 : Nat → Int → Int → Int → (List Spot) → Option ((List Spot))
  | 0, _, _, _, _ => none
  | N + 1, s0, s1, s2, s3 => f95b (f95 N) N s0 s1 s2 s3
def Af95 (s0 : Int) (s1 : Int) (s2 : Int) (s3 : List Spot) : List SV := [.rs 0 (List.length s3), .dat (iN s0), .dat (iN s1), .dat (iN s2), .dat (.v (.func (.func 91) #[] #[]))]
def Bf95 (s0 : Int) (s1 : Int) (s2 : Int) (s3 : List Spot) : List Blk := [.row 73 3 (List.map Spot.d s3)]
def Rf95 (y : (List Spot)) : List SV := []
def B1f95 (s0 : Int) (s1 : Int) (s2 : Int) (s3 : List Spot) (y : (List Spot)) : List Blk := [.row 73 3 (List.map Spot.d y)]
def BZf95 (y : (List Spot)) : Blk := .unborn
def Spf95 : Spec (Int × Int × Int × (List Spot)) ((List Spot)) := ⟨1, fun x => Af95 x.1 x.2.1 x.2.2.1 x.2.2.2, fun x => Bf95 x.1 x.2.1 x.2.2.1 x.2.2.2, fun _ y => Rf95 y, fun x y => B1f95 x.1 x.2.1 x.2.2.1 x.2.2.2 y, fun _ y => BZf95 y⟩
def H95 (N : Nat) (x : Int × Int × Int × (List Spot)) (y : (List Spot)) : Prop := f95 N x.1 x.2.1 x.2.2.1 x.2.2.2 = some y
def G95 (x : Int × Int × Int × (List Spot)) (y : (List Spot)) : Prop := ∃ N, H95 N x y
theorem H95.step {N : Nat} {s0 : Int} {s1 : Int} {s2 : Int} {s3 : List Spot} {m0 : Nat} {ρ : Type} {A : (List Spot) → Option ρ} {q : ρ} {xs : List SV} {id : Nat} {m : Nat → Blk} {l : List Loc} {K : Dl → List Loc → Prop} {k0 : Nat} (ha : xs = [.rs k0 m0, .dat (iN s0), .dat (iN s1), .dat (iN s2), .dat (.v (.func (.func 91) #[] #[]))]) (b0 : m k0 = .row 73 3 (List.map Spot.d s3)) (em0 : m0 = List.length s3) (hu : m id = .unborn) (hn : nodupB [k0] = true) (h : ∀ y, A y = some q → K ⟨.tup [], [(k0, .row 73 3 (List.map Spot.d y)), (id, .unborn)]⟩ l) (hF : (f95 N s0 s1 s2 s3).bind A = some q) : effPg Spf95 (H95 N) xs id (fun _ => SV.no) m l K := by
  subst em0; obtain ⟨y, hy, hA⟩ := bind_some hF
  exact eff_step [k0] (s0, s1, s2, s3) y _ hy rfl hn ha (by simp only [List.map_cons, List.map_nil, b0]; rfl) hu rfl rfl (h y hA)
theorem G95.step {N : Nat} {s0 : Int} {s1 : Int} {s2 : Int} {s3 : List Spot} {m0 : Nat} {ρ : Type} {A : (List Spot) → Option ρ} {q : ρ} {xs : List SV} {id : Nat} {m : Nat → Blk} {l : List Loc} {K : Dl → List Loc → Prop} {k0 : Nat} (ha : xs = [.rs k0 m0, .dat (iN s0), .dat (iN s1), .dat (iN s2), .dat (.v (.func (.func 91) #[] #[]))]) (b0 : m k0 = .row 73 3 (List.map Spot.d s3)) (em0 : m0 = List.length s3) (hu : m id = .unborn) (hn : nodupB [k0] = true) (h : ∀ y, A y = some q → K ⟨.tup [], [(k0, .row 73 3 (List.map Spot.d y)), (id, .unborn)]⟩ l) (hF : (f95 N s0 s1 s2 s3).bind A = some q) : effPg Spf95 (G95) xs id (fun _ => SV.no) m l K := by
  subst em0; obtain ⟨y, hy, hA⟩ := bind_some hF
  exact eff_step [k0] (s0, s1, s2, s3) y _ ⟨N, hy⟩ rfl hn ha (by simp only [List.map_cons, List.map_nil, b0]; rfl) hu rfl rfl (h y hA)
def Srf95 : Ann := ⟨[], [0, 500], [], []⟩
set_option maxRecDepth 20000 in
set_option maxHeartbeats 4000000 in
theorem Q95 (N : Nat) : CallOK Try.prog 95 (effPg Spf95 (H95 N)) := by
  induction N with
  | zero => exact eff_none fun x y h => (by cases (show (none : Option ((List Spot))) = some y from h))
  | succ N ih =>
    refine eff_of_vc (c := mkCtx tyTree [(95, false, effPg Spf95 (H95 N)), (105, false, effPg Spf105 G105), (104, false, effPg Spf104 G104), (103, false, effPg Spf103 G103), (102, false, effPg Spf102 G102), (101, false, effPg Spf101 G101), (100, false, effPg Spf100 G100), (99, false, effPg Spf99 G99), (98, false, effPg Spf98 G98), (91, true, lendPg [[0, 0, 0], [0, 0, 0]] G91)]) rfl tyOK (ctx_eff (callable Try.func95 rfl rfl) ih (ctx_eff (callable Try.func105 rfl rfl) P105 (ctx_eff (callable Try.func104 rfl rfl) P104 (ctx_eff (callable Try.func103 rfl rfl) P103 (ctx_eff (callable Try.func102 rfl rfl) P102 (ctx_eff (callable Try.func101 rfl rfl) P101 (ctx_eff (callable Try.func100 rfl rfl) P100 (ctx_eff (callable Try.func99 rfl rfl) P99 (ctx_eff (callable Try.func98 rfl rfl) P98 (ctx_lend (callable Try.func91 rfl rfl) P91 (ctx_nil))))))))))) 1000 500 Srf95 Try.func95 rfl rfl (by kernel_rfl) rfl rfl rfl rfl rfl (fun _ => rfl) (fun _ => rfl) (fun _ _ => ⟨rfl, rfl⟩) ?_
    rintro ⟨s0, s1, s2, s3⟩ y hF
    have hF : f95b (f95 N) N s0 s1 s2 s3 = some y := hF
    show vc _ _ _ _ ⟨[(0, .rs 0 (List.length s3)), (1, .dat (iN s0)), (2, .dat (iN s1)), (3, .dat (iN s2)), (4, .dat (.v (.func (.func 91) #[] #[])))], [(0, .row 73 3 (List.map Spot.d s3))]⟩ _
    unfold f95b at hF
    repeat' (first
      | ((with_reducible first | refine q0 _ _ ?_ | refine q1 _ _ _ _ ?_ | refine q2 _ _ _ ?_); clear Q q0 q1 q2)
      | ((with_reducible first | refine seq_op ?hx (fun Q q0 q1 q2 => ?_) | refine draw_op ?hx (fun Q q0 q1 q2 => ?_)); (case hx => exact rfl); conv => whnf)
      | ((with_reducible first | refine seq_off ?hx ?_ | refine seq_off0 ?hx ?_ | refine draw_off ?hx ?_ | refine draw_off0 ?hx ?_ | refine k_blk_out ?hx ?_ | refine vc_condT ?hx ?_); (case hx => exact rfl))
      | ((with_reducible refine seq_id ?_); (first | ((first | refine seq_opK rfl ?hy (fun Q q0 q1 q2 => ?_) | refine seq_opK0 rfl ?hy (fun Q q0 q1 q2 => ?_)); (case hy => first | assumption | exact notT (by assumption) | exact rfl); conv => whnf) | ((first | refine seq_offK rfl ?hy ?_ | refine seq_offK0 rfl ?hy ?_); (case hy => first | assumption | exact notF (by assumption) | exact rfl)) | (revert hF; (with_reducible first | refine seq_opF ?hx ?_ ?_ | refine seq_opF0 ?hx ?_ ?_); (case hx => exact rfl); (intro hc hF Q q0 q1 q2; conv => whnf); rotate_left; (intro hc hF); rotate_right) | (revert hF; (with_reducible first | refine seq_opN ?hx ?_ ?_ | refine seq_opN0 ?hx ?_ ?_); (case hx => exact rfl); (intro hc hF); rotate_left; (intro hc hF Q q0 q1 q2; conv => whnf); rotate_right)))
      | ((with_reducible refine draw_id ?_); (first | ((first | refine draw_opK rfl ?hy (fun Q q0 q1 q2 => ?_) | refine draw_opK0 rfl ?hy (fun Q q0 q1 q2 => ?_)); (case hy => first | assumption | exact notT (by assumption) | exact rfl); conv => whnf) | ((first | refine draw_offK rfl ?hy ?_ | refine draw_offK0 rfl ?hy ?_); (case hy => first | assumption | exact notF (by assumption) | exact rfl)) | (revert hF; (with_reducible first | refine draw_opF ?hx ?_ ?_ | refine draw_opF0 ?hx ?_ ?_); (case hx => exact rfl); (intro hc hF Q q0 q1 q2; conv => whnf); rotate_left; (intro hc hF); rotate_right) | (revert hF; (with_reducible first | refine draw_opN ?hx ?_ ?_ | refine draw_opN0 ?hx ?_ ?_); (case hx => exact rfl); (intro hc hF); rotate_left; (intro hc hF Q q0 q1 q2; conv => whnf); rotate_right)))
      | ((with_reducible refine cond_id ?_); (first | ((refine condKT rfl ?hy ?_); (case hy => first | assumption | exact notT (by assumption) | exact rfl)) | ((refine condKF rfl ?hy ?_); (case hy => first | assumption | exact notF (by assumption) | exact rfl)) | (revert hF; (with_reducible refine condF ?hx ?_ ?_); (case hx => exact rfl); all_goals (intro hc hF))))
      | ((with_reducible refine seq_nil ?_); (first | ((with_reducible refine hR _ ?_); clear R hR) | ((with_reducible refine hL _ ?_); clear L hL)))
      | ((with_reducible refine draw_nil ?_); (with_reducible refine hR _ _ ?hx ?_); (case hx => kernel_rfl); (first | clear R hR | clear hR))
      | ((with_reducible first | refine int_step ?_ | refine len_step ?_ | refine idx2 (by assumption) ?_ | refine idx3 (by assumption) ?_); conv => whnf)
      | (with_reducible first | refine vc_block ?_ | refine vc_skip ?_ | refine vc_ret ?_ | refine vc_exit ?_ | refine vc_region (fun R hR => ?_) | refine k_seq_ret ?_ | refine k_seq_exit ?_ | refine k_blk ?_ | refine k_blk_ret ?_ | refine k_blk_here ?_ | refine k_loop_ret ?_ | refine k_loop_exit ?_)
      | ((with_reducible refine vc_seqN [1000020, 1000017, 1000015, 1000010] ?hx ?_); (case hx => exact rfl))
      | ((with_reducible refine vc_draw ?hx (fun R hR => ?_)); (case hx => exact rfl))
      | (revert hF; (refine Lp.cut8 Lf95_c20 f95_c20 1000020 rfl rfl ?_ ?_); (intro hF); rotate_left; (rintro _ hF; dsimp only [Lf95_c20] at hF; unfold f95_c20 at hF); rotate_right)
      | exact Lp.head Ef95_c20 hF _ ⟨_, rfl, rfl, rfl, rfl⟩ (by first | exact rfl | ((try dsimp only [Lf95_c20]); first | assumption | omega | (simp only [List.length_set]; done)))
      | (revert hF; (refine Lp.cut9 Lf95_c17 f95_c17 1000017 rfl rfl ?_ ?_); (intro hF); rotate_left; (rintro b0''' hF; dsimp only [Lf95_c17] at hF; unfold f95_c17 at hF); rotate_right)
      | exact Lp.head Ef95_c17 hF _ ⟨_, rfl, rfl, rfl, rfl⟩ (by first | exact rfl | ((try dsimp only [Lf95_c17]); first | assumption | omega | (simp only [List.length_set]; done)))
      | (revert hF; (refine Lp.cut8 Lf95_c15 f95_c15 1000015 rfl rfl ?_ ?_); (intro hF); rotate_left; (rintro ⟨v13, v14, b0''⟩ hF; dsimp only [Lf95_c15] at hF; unfold f95_c15 at hF); rotate_right)
      | exact Lp.head Ef95_c15 hF _ ⟨_, rfl, rfl, rfl, rfl⟩ (by first | exact rfl | ((try dsimp only [Lf95_c15]); first | assumption | omega | (simp only [List.length_set]; done)))
      | (revert hF; (refine Lp.cut7 Lf95_c10 f95_c10 1000010 rfl rfl ?_ ?_); (intro hF); rotate_left; (rintro ⟨v3', b0'⟩ hF; dsimp only [Lf95_c10] at hF; unfold f95_c10 at hF); rotate_right)
      | exact Lp.head Ef95_c10 hF _ ⟨_, rfl, rfl, rfl, rfl⟩ (by first | exact rfl | ((try dsimp only [Lf95_c10]); first | assumption | omega | (simp only [List.length_set]; done)))
      | (revert hF; (refine Lp.loop Ef95_2 _ rfl ⟨_, rfl, rfl, rfl, rfl⟩ (by first | exact rfl | ((try dsimp only [Lf95_2]); first | assumption | omega | (simp only [List.length_set]; done))) (fun _ => rfl) ?_); rintro n ⟨v1, v2, v3, v10, v11, b0⟩ hF; dsimp only [Lf95_2, f95_2] at hF; unfold f95_2b at hF)
      | exact Lp.back Ef95_2 hF _ ⟨_, rfl, rfl, rfl, rfl⟩ (by first | exact rfl | ((try dsimp only [Lf95_2]); first | assumption | omega | (simp only [List.length_set]; done)))
      | (revert hF; (with_reducible refine G91.lend ?hx ?_); (case hx => exact rfl); intro v hF; conv => whnf)
      | (revert hF; (refine G98.step rfl rfl (by first | exact rfl | assumption | omega | (simp only [List.length_set]; done)) rfl ?hn ?_); (case hn => exact rfl); intro v hF; conv => whnf)
      | (revert hF; (refine G99.step rfl rfl (by first | exact rfl | assumption | omega | (simp only [List.length_set]; done)) rfl ?hn ?_); (case hn => exact rfl); intro v hF; conv => whnf)
      | (revert hF; (refine G100.step rfl rfl (by first | exact rfl | assumption | omega | (simp only [List.length_set]; done)) rfl ?hn ?_); (case hn => exact rfl); intro v hF; conv => whnf)
      | (revert hF; (refine G101.step rfl rfl (by first | exact rfl | assumption | omega | (simp only [List.length_set]; done)) rfl ?hn ?_); (case hn => exact rfl); intro v hF; conv => whnf)
      | (revert hF; (refine G102.step rfl rfl (by first | exact rfl | assumption | omega | (simp only [List.length_set]; done)) rfl ?hn ?_); (case hn => exact rfl); intro v hF; conv => whnf)
      | (revert hF; (refine G103.step rfl rfl (by first | exact rfl | assumption | omega | (simp only [List.length_set]; done)) rfl ?hn ?_); (case hn => exact rfl); intro v hF; conv => whnf)
      | (revert hF; (refine G104.step rfl rfl (by first | exact rfl | assumption | omega | (simp only [List.length_set]; done)) rfl ?hn ?_); (case hn => exact rfl); intro v hF; conv => whnf)
      | (revert hF; (refine G105.step rfl rfl (by first | exact rfl | assumption | omega | (simp only [List.length_set]; done)) rfl ?hn ?_); (case hn => exact rfl); intro v hF; conv => whnf)
      | (revert hF; (refine H95.step rfl rfl (by first | exact rfl | assumption | omega | (simp only [List.length_set]; done)) rfl ?hn ?_); (case hn => exact rfl); intro v hF; conv => whnf)
      | (show retE _ _ _ _ _ _; conv => whnf)
      | (cases hF; exact ⟨rfl, rfl, rfl⟩)
      | ((with_reducible have hG := keep_fact hF); have hk := hG.1; have hF := hG.2; clear hG)
      | (revert hF; (with_reducible refine idx1 ?hn ?_); (case hn => first | exact rfl | exact (List.length_map _) | assumption | omega | simp); intro x hx hF; conv => whnf)
      | ((refine row_all ?hn ?_); (case hn => first | exact rfl | (simp; done) | (simp; omega)); conv => whnf)
      | ((with_reducible refine le_step ?hn ?_); (case hn => first | exact rfl | assumption | omega); conv => whnf)
      | ((refine ⟨?hx, ?_⟩); (case hx => exact ⟨rfl, Nat.le_of_ble_eq_true rfl, rfl⟩); conv => whnf)
      | ((with_reducible refine ex_step ?_); conv => whnf)
      | ((with_reducible refine both_T ?hx ?_); (case hx => first | exact rfl | assumption | exact notT (by assumption)); conv => whnf)
      | ((with_reducible refine both_F ?hx ?_); (case hx => first | exact rfl | assumption | exact notF (by assumption)); conv => whnf)
      | (revert hF; (with_reducible refine ite_step ?_ ?_) <;> (intro hc hF; conv => whnf))
      | ((with_reducible refine vc_condF ?hx ?_); (case hx => exact rfl))
      | (show retD _ _ _ _ _ _; conv => whnf)
      | ((refine ⟨?hx, trivial⟩); (case hx => (cases hF; exact rfl)))
      | ((refine ⟨?hx, ?_⟩); (case hx => decide); conv => whnf)
      | with_reducible refine k_seq ?_
      | (have hF : (none : Option _) = some _ := hF; cases hF))
theorem P95 : CallOK Try.prog 95 (effPg Spf95 G95) := eff_ex Q95
end
end Go.Vc
namespace Go.Vc
open Go.Proofs
set_option linter.unusedVariables false
set_option linter.unnecessarySimpa false
set_option linter.unusedSimpArgs false
section
variable {c : Ctx} {p nid : Nat} {a b : Code} {st : St} {K : Ex → St → Prop}
/- f43: tusche/serial.Blind -/
def f43_i101_c20 (N : Nat) (out7 : List Spot) : Option ((List Spot) × Int) :=
 (f96 N (Wk .u64 ((List.length out7 : Int)))).bind fun x2 =>
 (f95 N (0 : Int) (List.length out7 : Int) x2 out7).bind fun x3 =>
 (keepL out7 x3).bind fun x4 =>
 some (x4, (0 : Int))
def Lf43_i101_c20 (N : Nat) : Lp ((List Spot)) (Nat) ((List Spot) × Int) := ⟨⟨[7], [102090007], [(.slot 7, 102090007, 73, 3)], []⟩, fun out7 => [.rs 102090007 (List.length out7)], fun out7 => [.row 73 3 (List.map Spot.d out7)], fun out7 => f43_i101_c20 N out7, fun _ m0 => [.rs 102090007 m0], fun out7 _ => [.row 73 3 (List.map Spot.d out7)], fun out7 => List.length out7, fun _ => rfl, fun _ => rfl⟩
theorem Ef43_i101_c20 {N out7} : (Lf43_i101_c20 N).E out7 = f43_i101_c20 N out7 := rfl
def f43_i101_c19 (a0 : List (List Int)) (v20 : Int) (r6 : (List Spot) → Int → Option ((List Spot) × Int)) (out7' : List Spot) : Option ((List Spot) × Int) :=
 r6 (out7') (W (v20 + (1 : Int)))
def Lf43_i101_c19 (a0 : List (List Int)) (v20 : Int) (r6 : (List Spot) → Int → Option ((List Spot) × Int)) : Lp ((List Spot)) (Nat) ((List Spot) × Int) := ⟨⟨[0, 1, 7, 19, 20], [102090007], [(.slot 7, 102090007, 73, 3)], []⟩, fun out7' => [.dat (sl_sl_iN a0), .dat (.v (.func (.func 77) #[] #[])), .rs 102090007 (List.length (out7')), .dat (iN (List.length a0 : Int)), .dat (iN v20)], fun out7' => [.row 73 3 (List.map Spot.d (out7'))], fun out7' => f43_i101_c19 a0 v20 r6 out7', fun _ m0 => [.dat (sl_sl_iN a0), .dat (.v (.func (.func 77) #[] #[])), .rs 102090007 m0, .dat (iN (List.length a0 : Int)), .dat (iN v20)], fun out7' _ => [.row 73 3 (List.map Spot.d (out7'))], fun out7' => List.length (out7'), fun _ => rfl, fun _ => rfl⟩
theorem Ef43_i101_c19 {a0 v20 r6 out7'} : (Lf43_i101_c19 a0 v20 r6).E out7' = f43_i101_c19 a0 v20 r6 out7' := rfl
def f43_i101_c18 (a0 : List (List Int)) (v20 : Int) (v25 : Int) (r9 : (List Spot) → Int → Option ((List Spot) × Int)) (out7'' : List Spot) : Option ((List Spot) × Int) :=
 r9 (out7'') (W (v25 + (1 : Int)))
def Lf43_i101_c18 (a0 : List (List Int)) (v20 : Int) (v25 : Int) (r9 : (List Spot) → Int → Option ((List Spot) × Int)) : Lp ((List Spot)) (Nat) ((List Spot) × Int) := ⟨⟨[0, 1, 7, 8, 19, 20, 24, 25], [102090007], [(.slot 7, 102090007, 73, 3)], []⟩, fun out7'' => [.dat (sl_sl_iN a0), .dat (.v (.func (.func 77) #[] #[])), .rs 102090007 (List.length (out7'')), .dat (iN v20), .dat (iN (List.length a0 : Int)), .dat (iN v20), .dat (iN (List.length a0 : Int)), .dat (iN v25)], fun out7'' => [.row 73 3 (List.map Spot.d (out7''))], fun out7'' => f43_i101_c18 a0 v20 v25 r9 out7'', fun _ m0 => [.dat (sl_sl_iN a0), .dat (.v (.func (.func 77) #[] #[])), .rs 102090007 m0, .dat (iN v20), .dat (iN (List.length a0 : Int)), .dat (iN v20), .dat (iN (List.length a0 : Int)), .dat (iN v25)], fun out7'' _ => [.row 73 3 (List.map Spot.d (out7''))], fun out7'' => List.length (out7''), fun _ => rfl, fun _ => rfl⟩
theorem Ef43_i101_c18 {a0 v20 v25 r9 out7''} : (Lf43_i101_c18 a0 v20 v25 r9).E out7'' = f43_i101_c18 a0 v20 v25 r9 out7'' := rfl
def f43_i101_12b (r12 : (List Spot) → Int → Option ((List Spot) × Int)) (a0 : List (List Int)) (N : Nat) (v20 : Int) (v25 : Int) (k2 : (List Spot) → Option ((List Spot) × Int)) (out7'' : List Spot) (v29 : Int) : Option ((List Spot) × Int) :=
 bif decide (v29 < v25) then ((f77 N v29 v25).bind fun x5 =>
 (f59 N a0 v20 x5.1).bind fun x6 =>
 (f59 N a0 v20 x5.2).bind fun x7 =>
 bif decide (x6 = x7) then ((app 24 (out7'') [(Spot.mk v20 v29 v25)]).bind fun x8 =>
 r12 x8 (W (v29 + (1 : Int))))
 else (r12 (out7'') (W (v29 + (1 : Int)))))
 else (k2 (out7''))
def f43_i101_12 (a0 : List (List Int)) (N : Nat) (v20 : Int) (v25 : Int) (k2 : (List Spot) → Option ((List Spot) × Int)) : Nat → (List Spot) → Int → Option ((List Spot) × Int)
  | 0, _, _ => none
  | n + 1, out7'', v29 => f43_i101_12b (f43_i101_12 a0 N v20 v25 k2 n) a0 N v20 v25 k2 out7'' v29
def Lf43_i101_12 (a0 : List (List Int)) (N : Nat) (v20 : Int) (v25 : Int) (k2 : (List Spot) → Option ((List Spot) × Int)) : Lp (Nat × (List Spot) × Int) (Nat) ((List Spot) × Int) := ⟨⟨[0, 1, 7, 8, 9, 19, 20, 24, 25, 28, 29], [102090007], [(.slot 7, 102090007, 73, 3)], []⟩, fun (_, out7'', v29) => [.dat (sl_sl_iN a0), .dat (.v (.func (.func 77) #[] #[])), .rs 102090007 (List.length (out7'')), .dat (iN v20), .dat (iN v25), .dat (iN (List.length a0 : Int)), .dat (iN v20), .dat (iN (List.length a0 : Int)), .dat (iN v25), .dat (iN v25), .dat (iN v29)], fun (_, out7'', _) => [.row 73 3 (List.map Spot.d (out7''))], fun (n, out7'', v29) => f43_i101_12 a0 N v20 v25 k2 n out7'' v29, fun (_, _, v29) m0 => [.dat (sl_sl_iN a0), .dat (.v (.func (.func 77) #[] #[])), .rs 102090007 m0, .dat (iN v20), .dat (iN v25), .dat (iN (List.length a0 : Int)), .dat (iN v20), .dat (iN (List.length a0 : Int)), .dat (iN v25), .dat (iN v25), .dat (iN v29)], fun (_, out7'', _) _ => [.row 73 3 (List.map Spot.d (out7''))], fun (_, out7'', _) => List.length (out7''), fun _ => rfl, fun _ => rfl⟩
theorem Ef43_i101_12 {a0 N v20 v25 k2 n out7'' v29} : (Lf43_i101_12 a0 N v20 v25 k2).E (n, out7'', v29) = f43_i101_12 a0 N v20 v25 k2 n out7'' v29 := rfl
def f43_i101_9b (r9 : (List Spot) → Int → Option ((List Spot) × Int)) (a0 : List (List Int)) (N : Nat) (v20 : Int) (k1 : (List Spot) → Option ((List Spot) × Int)) (out7' : List Spot) (v25 : Int) : Option ((List Spot) × Int) :=
 bif decide (v25 < (List.length a0 : Int)) then (joinK (f43_i101_c18 a0 v20 v25 r9) fun k2 =>
 f43_i101_12 a0 N v20 v25 k2 N (out7') (0 : Int))
 else (k1 (out7'))
def f43_i101_9 (a0 : List (List Int)) (N : Nat) (v20 : Int) (k1 : (List Spot) → Option ((List Spot) × Int)) : Nat → (List Spot) → Int → Option ((List Spot) × Int)
  | 0, _, _ => none
  | n + 1, out7', v25 => f43_i101_9b (f43_i101_9 a0 N v20 k1 n) a0 N v20 k1 out7' v25
def Lf43_i101_9 (a0 : List (List Int)) (N : Nat) (v20 : Int) (k1 : (List Spot) → Option ((List Spot) × Int)) : Lp (Nat × (List Spot) × Int) (Nat) ((List Spot) × Int) := ⟨⟨[0, 1, 7, 8, 19, 20, 24, 25], [102090007], [(.slot 7, 102090007, 73, 3)], []⟩, fun (_, out7', v25) => [.dat (sl_sl_iN a0), .dat (.v (.func (.func 77) #[] #[])), .rs 102090007 (List.length (out7')), .dat (iN v20), .dat (iN (List.length a0 : Int)), .dat (iN v20), .dat (iN (List.length a0 : Int)), .dat (iN v25)], fun (_, out7', _) => [.row 73 3 (List.map Spot.d (out7'))], fun (n, out7', v25) => f43_i101_9 a0 N v20 k1 n out7' v25, fun (_, _, v25) m0 => [.dat (sl_sl_iN a0), .dat (.v (.func (.func 77) #[] #[])), .rs 102090007 m0, .dat (iN v20), .dat (iN (List.length a0 : Int)), .dat (iN v20), .dat (iN (List.length a0 : Int)), .dat (iN v25)], fun (_, out7', _) _ => [.row 73 3 (List.map Spot.d (out7'))], fun (_, out7', _) => List.length (out7'), fun _ => rfl, fun _ => rfl⟩
theorem Ef43_i101_9 {a0 N v20 k1 n out7' v25} : (Lf43_i101_9 a0 N v20 k1).E (n, out7', v25) = f43_i101_9 a0 N v20 k1 n out7' v25 := rfl
def f43_i101_6b (r6 : (List Spot) → Int → Option ((List Spot) × Int)) (a0 : List (List Int)) (N : Nat) (k0 : (List Spot) → Option ((List Spot) × Int)) (out7 : List Spot) (v20 : Int) : Option ((List Spot) × Int) :=
 bif decide (v20 < (List.length a0 : Int)) then (joinK (f43_i101_c19 a0 v20 r6) fun k1 =>
 f43_i101_9 a0 N v20 k1 N out7 (0 : Int))
 else (k0 out7)
def f43_i101_6 (a0 : List (List Int)) (N : Nat) (k0 : (List Spot) → Option ((List Spot) × Int)) : Nat → (List Spot) → Int → Option ((List Spot) × Int)
  | 0, _, _ => none
  | n + 1, out7, v20 => f43_i101_6b (f43_i101_6 a0 N k0 n) a0 N k0 out7 v20
def Lf43_i101_6 (a0 : List (List Int)) (N : Nat) (k0 : (List Spot) → Option ((List Spot) × Int)) : Lp (Nat × (List Spot) × Int) (Nat) ((List Spot) × Int) := ⟨⟨[0, 1, 7, 19, 20], [102090007], [(.slot 7, 102090007, 73, 3)], []⟩, fun (_, out7, v20) => [.dat (sl_sl_iN a0), .dat (.v (.func (.func 77) #[] #[])), .rs 102090007 (List.length out7), .dat (iN (List.length a0 : Int)), .dat (iN v20)], fun (_, out7, _) => [.row 73 3 (List.map Spot.d out7)], fun (n, out7, v20) => f43_i101_6 a0 N k0 n out7 v20, fun (_, _, v20) m0 => [.dat (sl_sl_iN a0), .dat (.v (.func (.func 77) #[] #[])), .rs 102090007 m0, .dat (iN (List.length a0 : Int)), .dat (iN v20)], fun (_, out7, _) _ => [.row 73 3 (List.map Spot.d out7)], fun (_, out7, _) => List.length out7, fun _ => rfl, fun _ => rfl⟩
theorem Ef43_i101_6 {a0 N k0 n out7 v20} : (Lf43_i101_6 a0 N k0).E (n, out7, v20) = f43_i101_6 a0 N k0 n out7 v20 := rfl
def f43 (N : Nat) (a0 : List (List Int)) : Option ((List Spot) × Int) :=
 (f49 N a0).bind fun x1 =>
 bif decide (¬ x1 = (0 : Int)) then (some ([], x1))
 else (joinK (f43_i101_c20 N) fun k0 =>
 f43_i101_6 a0 N k0 N [] (0 : Int))
def G43 (ds : List D) (d : D) : Prop := ∃ (N : Nat) (a0 : List (List Int)) (r : (List Spot) × Int), ds = [sl_sl_iN a0] ∧ f43 N a0 = some r ∧ d = .tup [sl_Spot r.1, iN r.2]
theorem G43.step {N : Nat} {a0 : List (List Int)} {ρ : Type} {A : ((List Spot) × Int) → Option ρ} {q : ρ} {ds : List D} {K : D → Prop} (hd : ds = [sl_sl_iN a0]) (h : ∀ r, A r = some q → K (.tup [sl_Spot r.1, iN r.2])) (hF : (f43 N a0).bind A = some q) : ∃ d, G43 ds d ∧ K d := by
  obtain ⟨r, hr, hA⟩ := bind_some hF
  exact ⟨_, ⟨N, a0, r, hd, hr, rfl⟩, h r hA⟩
set_option maxRecDepth 20000 in
set_option maxHeartbeats 4000000 in
theorem P43 : PureOK Try.prog 43 G43 := by
  refine pure_of_vc (c := mkCtx tyTree [(76, false, inlPg (mkCtx tyTree [(90, false, inlPg (mkCtx tyTree [(95, false, effPg Spf95 G95), (96, true, lendPg [[0]] G96)]) Try.f90), (77, true, purePg [[0], [0]] G77), (59, true, lendPg [[1], [0], [1]] G59), (49, true, lendPg [[1]] G49)]) Try.f76)]) rfl tyOK (ctx_eff (callable Try.func76 rfl rfl) (CallOK.inl rfl tyOK (ctx_eff (callable Try.func90 rfl rfl) (CallOK.inl rfl tyOK (ctx_eff (callable Try.func95 rfl rfl) P95 (ctx_lend (callable Try.func96 rfl rfl) P96 (ctx_nil))) Try.func90 (by kernel_rfl)) (ctx_cons (callable Try.func77 rfl rfl) P77 (ctx_lend (callable Try.func59 rfl rfl) P59 (ctx_lend (callable Try.func49 rfl rfl) P49 (ctx_nil))))) Try.func76 (by kernel_rfl)) (ctx_nil)) [[3], [0]] 1 Try.func43 rfl rfl (by decide) (by kernel_rfl) ?_
  rintro ds d ⟨N, a0, r, rfl, hF, rfl⟩ hok
  clear hok
  refine ⟨rfl, ?_⟩
  show vc _ _ _ _ ⟨[(0, .dat (sl_sl_iN a0))], []⟩ _
  unfold f43 at hF
  repeat' (first
    | ((with_reducible first | refine q0 _ _ ?_ | refine q1 _ _ _ _ ?_ | refine q2 _ _ _ ?_); clear Q q0 q1 q2)
    | ((with_reducible first | refine seq_op ?hx (fun Q q0 q1 q2 => ?_)); (case hx => exact rfl); conv => whnf)
    | ((with_reducible refine cond_id ?_); (first | ((refine condKT rfl ?hy ?_); (case hy => first | assumption | exact notT (by assumption) | exact rfl)) | ((refine condKF rfl ?hy ?_); (case hy => first | assumption | exact notF (by assumption) | exact rfl)) | (revert hF; (with_reducible refine condF ?hx ?_ ?_); (case hx => exact rfl); all_goals (intro hc hF))))
    | ((with_reducible refine seq_nil ?_); (first | ((with_reducible refine hR _ ?_); clear R hR) | ((with_reducible refine hL _ ?_); clear L hL)))
    | ((with_reducible first | refine int_step ?_ | refine len_step ?_); conv => whnf)
    | (with_reducible first | refine vc_block ?_ | refine vc_skip ?_ | refine vc_ret ?_ | refine vc_exit ?_ | refine vc_region (fun R hR => ?_) | refine k_seq_ret ?_ | refine k_seq_exit ?_ | refine k_blk ?_ | refine k_blk_ret ?_ | refine k_blk_here ?_ | refine k_loop_ret ?_ | refine k_loop_exit ?_)
    | ((with_reducible refine vc_seqN [102000000020, 102000000019, 102000000018] ?hx ?_); (case hx => exact rfl))
    | (revert hF; (refine Lp.cut1 Lf43_i101_c20 f43_i101_c20 102000000020 rfl rfl ?_ ?_); (intro hF); rotate_left; (rintro out7 hF; dsimp only [Lf43_i101_c20] at hF; unfold f43_i101_c20 at hF); rotate_right)
    | exact Lp.head Ef43_i101_c20 hF _ ⟨_, rfl, rfl, rfl, rfl⟩ (by first | exact rfl | ((try dsimp only [Lf43_i101_c20]); first | assumption | omega | (simp only [List.length_set]; done)))
    | (revert hF; (refine Lp.cut3 Lf43_i101_c19 f43_i101_c19 102000000019 rfl rfl ?_ ?_); (intro hF); rotate_left; (rintro out7' hF; dsimp only [Lf43_i101_c19] at hF; unfold f43_i101_c19 at hF); rotate_right)
    | exact Lp.head Ef43_i101_c19 hF _ ⟨_, rfl, rfl, rfl, rfl⟩ (by first | exact rfl | ((try dsimp only [Lf43_i101_c19]); first | assumption | omega | (simp only [List.length_set]; done)))
    | (revert hF; (refine Lp.cut4 Lf43_i101_c18 f43_i101_c18 102000000018 rfl rfl ?_ ?_); (intro hF); rotate_left; (rintro out7'' hF; dsimp only [Lf43_i101_c18] at hF; unfold f43_i101_c18 at hF); rotate_right)
    | exact Lp.head Ef43_i101_c18 hF _ ⟨_, rfl, rfl, rfl, rfl⟩ (by first | exact rfl | ((try dsimp only [Lf43_i101_c18]); first | assumption | omega | (simp only [List.length_set]; done)))
    | (revert hF; (refine Lp.loop Ef43_i101_12 _ rfl ⟨_, rfl, rfl, rfl, rfl⟩ (by first | exact rfl | ((try dsimp only [Lf43_i101_12]); first | assumption | omega | (simp only [List.length_set]; done))) (fun _ => rfl) ?_); rintro n ⟨out7'', v29⟩ hF; dsimp only [Lf43_i101_12, f43_i101_12] at hF; unfold f43_i101_12b at hF)
    | exact Lp.back Ef43_i101_12 hF _ ⟨_, rfl, rfl, rfl, rfl⟩ (by first | exact rfl | ((try dsimp only [Lf43_i101_12]); first | assumption | omega | (simp only [List.length_set]; done)))
    | (revert hF; (refine Lp.loop Ef43_i101_9 _ rfl ⟨_, rfl, rfl, rfl, rfl⟩ (by first | exact rfl | ((try dsimp only [Lf43_i101_9]); first | assumption | omega | (simp only [List.length_set]; done))) (fun _ => rfl) ?_); rintro n ⟨out7', v25⟩ hF; dsimp only [Lf43_i101_9, f43_i101_9] at hF; unfold f43_i101_9b at hF)
    | exact Lp.back Ef43_i101_9 hF _ ⟨_, rfl, rfl, rfl, rfl⟩ (by first | exact rfl | ((try dsimp only [Lf43_i101_9]); first | assumption | omega | (simp only [List.length_set]; done)))
    | (revert hF; (refine Lp.loop Ef43_i101_6 _ rfl ⟨_, rfl, rfl, rfl, rfl⟩ (by first | exact rfl | ((try dsimp only [Lf43_i101_6]); first | assumption | omega | (simp only [List.length_set]; done))) (fun _ => rfl) ?_); rintro n ⟨out7, v20⟩ hF; dsimp only [Lf43_i101_6, f43_i101_6] at hF; unfold f43_i101_6b at hF)
    | exact Lp.back Ef43_i101_6 hF _ ⟨_, rfl, rfl, rfl, rfl⟩ (by first | exact rfl | ((try dsimp only [Lf43_i101_6]); first | assumption | omega | (simp only [List.length_set]; done)))
    | (revert hF; (with_reducible refine G49.lend ?hx ?_); (case hx => exact rfl); intro v hF; conv => whnf)
    | (revert hF; (with_reducible refine G59.lend ?hx ?_); (case hx => exact rfl); intro v hF; conv => whnf)
    | (revert hF; (with_reducible refine G77.step ?hx ?_); (case hx => exact rfl); intro v hF; conv => whnf)
    | (revert hF; (with_reducible refine G96.lend ?hx ?_); (case hx => exact rfl); intro v hF; conv => whnf)
    | (revert hF; (refine G95.step rfl rfl (by first | exact rfl | assumption | omega | (simp only [List.length_set]; done)) rfl ?hn ?_); (case hn => exact rfl); intro v hF; conv => whnf)
    | ((with_reducible have hG := keep_fact hF); have hk := hG.1; have hF := hG.2; clear hG)
    | ((with_reducible first | refine k_blk_out ?hx ?_ | refine vc_condT ?hx ?_); (case hx => exact rfl))
    | ((with_reducible have hG := app_fact hF); clear hF; (first | ((refine app_row hG ?hn ?hs (fun q hF => ?_)); (case hn => first | exact rfl | assumption | omega); (case hs => exact rfl)) | ((refine app_nil (d := Spot.d) hG ?hs (fun q hF => ?_)); (case hs => exact rfl)) | ((refine app_gen (d := Spot.d) hG ?ho ?hn ?hs (fun q hF => ?_)); (case ho => exact rfl); (case hn => exact rfl); (case hs => exact rfl))); clear hG; conv => whnf)
    | ((refine row_all ?hn ?_); (case hn => first | exact rfl | (simp; done) | (simp; omega)); conv => whnf)
    | ((with_reducible refine le_step ?hn ?_); (case hn => first | exact rfl | assumption | omega); conv => whnf)
    | ((refine ⟨?hx, ?_⟩); (case hx => exact ⟨rfl, Nat.le_of_ble_eq_true rfl, rfl⟩); conv => whnf)
    | ((with_reducible refine ex_step ?_); conv => whnf)
    | ((with_reducible refine both_T ?hx ?_); (case hx => first | exact rfl | assumption | exact notT (by assumption)); conv => whnf)
    | ((with_reducible refine both_F ?hx ?_); (case hx => first | exact rfl | assumption | exact notF (by assumption)); conv => whnf)
    | (revert hF; (with_reducible refine ite_step ?_ ?_) <;> (intro hc hF; conv => whnf))
    | ((with_reducible refine vc_condF ?hx ?_); (case hx => exact rfl))
    | (show retD _ _ _ _ _ _; conv => whnf)
    | ((refine inl_step ?ha ?hb ?hc rfl ?_); (case ha => exact rfl); (case hb => omega); (case hc => exact Nat.le_of_ble_eq_true rfl))
    | (show Kinl _ _ _ _ _ _ _; conv => whnf)
    | ((with_reducible refine kinl_step ?ha ?hb ?_); (case ha => exact rfl); (case hb => exact rfl); conv => whnf)
    | ((refine ⟨?hx, trivial⟩); (case hx => (cases hF; exact rfl)))
    | ((refine ⟨?hx, ?_⟩); (case hx => decide); conv => whnf)
    | with_reducible refine k_seq ?_
    | (have hF : (none : Option _) = some _ := hF; cases hF))
end
end Go.Vc
namespace Go.Vc
open Go.Proofs
set_option linter.unusedVariables false
set_option linter.unnecessarySimpa false
set_option linter.unusedSimpArgs false
section
variable {c : Ctx} {p nid : Nat} {a b : Code} {st : St} {K : Ex → St → Prop}
/- f47: tusche/tuschelaw01.tables -/
def f47_c8 : Option (Bool) :=
 some (true)
def Lf47_c8 : Lp (Unit) Unit (Bool) := lp0 ⟨[], [], [], []⟩ (fun _ => []) (fun _ => []) (fun _ => f47_c8)
theorem Ef47_c8 : (Lf47_c8).E () = f47_c8 := rfl
def f47_4b (r4 : Int → Option (Bool)) (a0 : List (List Int)) (a1 : List (List Int)) (N : Nat) (k0 : Option (Bool)) (i5 : Int) : Option (Bool) :=
 bif decide (i5 < (List.length a0 : Int)) then ((ix a0 i5).bind fun x1 =>
 (ix a1 i5).bind fun x2 =>
 (f34 N x1 x2).bind fun x3 =>
 bif !x3 then (some (false))
 else (r4 (W (i5 + (1 : Int)))))
 else k0
def f47_4 (a0 : List (List Int)) (a1 : List (List Int)) (N : Nat) (k0 : Option (Bool)) : Nat → Int → Option (Bool)
  | 0, _ => none
  | n + 1, i5 => f47_4b (f47_4 a0 a1 N k0 n) a0 a1 N k0 i5
def Lf47_4 (a0 : List (List Int)) (a1 : List (List Int)) (N : Nat) (k0 : Option (Bool)) : Lp (Nat × Int) Unit (Bool) := lp0 ⟨[0, 1, 5], [], [], []⟩ (fun (_, i5) => [.dat (sl_sl_iN a0), .dat (sl_sl_iN a1), .dat (iN i5)]) (fun (_, _) => []) (fun (n, i5) => f47_4 a0 a1 N k0 n i5)
theorem Ef47_4 {a0 a1 N k0 n i5} : (Lf47_4 a0 a1 N k0).E (n, i5) = f47_4 a0 a1 N k0 n i5 := rfl
def f47 (N : Nat) (a0 : List (List Int)) (a1 : List (List Int)) : Option (Bool) :=
 bif decide (¬ (List.length a0 : Int) = (List.length a1 : Int)) then (some (false))
 else (joinK f47_c8 fun k0 =>
 f47_4 a0 a1 N k0 N (0 : Int))
def G47 (ds : List D) (d : D) : Prop := ∃ (N : Nat) (a0 : List (List Int)) (a1 : List (List Int)) (r : Bool), ds = [sl_sl_iN a0, sl_sl_iN a1] ∧ f47 N a0 a1 = some r ∧ d = bN r
theorem G47.lend {N : Nat} {a0 : List (List Int)} {a1 : List (List Int)} {ρ : Type} {A : Bool → Option ρ} {q : ρ} {ds : List D} {K : D → Prop} (hd : ds = [sl_sl_iN a0, sl_sl_iN a1]) (h : ∀ r, A r = some q → K (bN r)) (hF : (f47 N a0 a1).bind A = some q) : ∃ d, (G47 ds d ∧ d.flatB = true) ∧ K d := by
  obtain ⟨r, hr, hA⟩ := bind_some hF
  exact ⟨_, ⟨⟨N, a0, a1, r, hd, hr, rfl⟩, rfl⟩, h r hA⟩
theorem G47.step {N : Nat} {a0 : List (List Int)} {a1 : List (List Int)} {ρ : Type} {A : Bool → Option ρ} {q : ρ} {ds : List D} {K : D → Prop} (hd : ds = [sl_sl_iN a0, sl_sl_iN a1]) (h : ∀ r, A r = some q → K (bN r)) (hF : (f47 N a0 a1).bind A = some q) : ∃ d, G47 ds d ∧ K d := by
  obtain ⟨r, hr, hA⟩ := bind_some hF
  exact ⟨_, ⟨N, a0, a1, r, hd, hr, rfl⟩, h r hA⟩
set_option maxRecDepth 20000 in
set_option maxHeartbeats 4000000 in
theorem P47 : PureOK Try.prog 47 G47 := by
  refine pure_of_vc (c := mkCtx tyTree [(34, true, lendPg [[1], [1]] G34)]) rfl tyOK (ctx_lend (callable Try.func34 rfl rfl) P34 (ctx_nil)) [[0]] 2 Try.func47 rfl rfl (by decide) (by kernel_rfl) ?_
  rintro ds d ⟨N, a0, a1, r, rfl, hF, rfl⟩ hok
  clear hok
  refine ⟨rfl, ?_⟩
  show vc _ _ _ _ ⟨[(0, .dat (sl_sl_iN a0)), (1, .dat (sl_sl_iN a1))], []⟩ _
  unfold f47 at hF
  repeat' (first
    | ((with_reducible first | refine q0 _ _ ?_ | refine q1 _ _ _ _ ?_ | refine q2 _ _ _ ?_); clear Q q0 q1 q2)
    | ((with_reducible first | refine seq_op ?hx (fun Q q0 q1 q2 => ?_) | refine draw_op ?hx (fun Q q0 q1 q2 => ?_)); (case hx => exact rfl); conv => whnf)
    | ((with_reducible refine cond_id ?_); (first | ((refine condKT rfl ?hy ?_); (case hy => first | assumption | exact notT (by assumption) | exact rfl)) | ((refine condKF rfl ?hy ?_); (case hy => first | assumption | exact notF (by assumption) | exact rfl)) | (revert hF; (with_reducible refine condF ?hx ?_ ?_); (case hx => exact rfl); all_goals (intro hc hF))))
    | ((with_reducible refine seq_nil ?_); (first | ((with_reducible refine hR _ ?_); clear R hR) | ((with_reducible refine hL _ ?_); clear L hL)))
    | ((with_reducible refine draw_nil ?_); (with_reducible refine hR _ _ ?hx ?_); (case hx => kernel_rfl); (first | clear R hR | clear hR))
    | ((with_reducible first | refine int_step ?_ | refine len_step ?_ | refine idx2 (by assumption) ?_ | refine idx3 (by assumption) ?_); conv => whnf)
    | (with_reducible first | refine vc_block ?_ | refine vc_skip ?_ | refine vc_ret ?_ | refine vc_exit ?_ | refine vc_region (fun R hR => ?_) | refine k_seq_ret ?_ | refine k_seq_exit ?_ | refine k_blk ?_ | refine k_blk_ret ?_ | refine k_blk_here ?_ | refine k_loop_ret ?_ | refine k_loop_exit ?_)
    | ((with_reducible refine vc_seqN [8] ?hx ?_); (case hx => exact rfl))
    | ((with_reducible refine vc_draw ?hx (fun R hR => ?_)); (case hx => exact rfl))
    | (revert hF; (refine Lp.cut0 Lf47_c8 f47_c8 8 rfl rfl ?_ ?_); (intro hF); rotate_left; (rintro _ hF; dsimp only [Lf47_c8] at hF; unfold f47_c8 at hF); rotate_right)
    | exact Lp.head Ef47_c8 hF () ⟨_, rfl, rfl, rfl, rfl⟩ rfl
    | (revert hF; (refine Lp.loop Ef47_4 () rfl ⟨_, rfl, rfl, rfl, rfl⟩ rfl (fun _ => rfl) ?_); rintro n i5 hF; dsimp only [Lf47_4, f47_4] at hF; unfold f47_4b at hF)
    | exact Lp.back Ef47_4 hF () ⟨_, rfl, rfl, rfl, rfl⟩ rfl
    | (revert hF; (with_reducible refine G34.lend ?hx ?_); (case hx => exact rfl); intro v hF; conv => whnf)
    | ((with_reducible first | refine k_blk_out ?hx ?_ | refine vc_condT ?hx ?_); (case hx => exact rfl))
    | (revert hF; (with_reducible refine idx1 ?hn ?_); (case hn => first | exact rfl | exact (List.length_map _) | assumption | omega | simp); intro x hx hF; conv => whnf)
    | ((refine row_all ?hn ?_); (case hn => first | exact rfl | (simp; done) | (simp; omega)); conv => whnf)
    | ((with_reducible refine le_step ?hn ?_); (case hn => first | exact rfl | assumption | omega); conv => whnf)
    | ((refine ⟨?hx, ?_⟩); (case hx => exact ⟨rfl, Nat.le_of_ble_eq_true rfl, rfl⟩); conv => whnf)
    | ((with_reducible refine ex_step ?_); conv => whnf)
    | ((with_reducible refine both_T ?hx ?_); (case hx => first | exact rfl | assumption | exact notT (by assumption)); conv => whnf)
    | ((with_reducible refine both_F ?hx ?_); (case hx => first | exact rfl | assumption | exact notF (by assumption)); conv => whnf)
    | (revert hF; (with_reducible refine ite_step ?_ ?_) <;> (intro hc hF; conv => whnf))
    | ((with_reducible refine vc_condF ?hx ?_); (case hx => exact rfl))
    | (show retD _ _ _ _ _ _; conv => whnf)
    | ((refine ⟨?hx, trivial⟩); (case hx => (cases hF; exact rfl)))
    | ((refine ⟨?hx, ?_⟩); (case hx => decide); conv => whnf)
    | with_reducible refine k_seq ?_
    | (have hF : (none : Option _) = some _ := hF; cases hF))
end
end Go.Vc
namespace Go.Vc
open Go.Proofs
set_option linter.unusedVariables false
set_option linter.unnecessarySimpa false
set_option linter.unusedSimpArgs false
section
variable {c : Ctx} {p nid : Nat} {a b : Code} {st : St} {K : Ex → St → Prop}
/- f55: tusche/tuschelaw01.T -/
def f55 (N : Nat) : Option ((List (List Int))) :=
 some ([[(0 : Int), (1 : Int), (2 : Int), (3 : Int), (4 : Int)], [(2 : Int), (3 : Int), (4 : Int), (0 : Int), (1 : Int)], [(4 : Int), (0 : Int), (1 : Int), (2 : Int), (3 : Int)], [(1 : Int), (2 : Int), (3 : Int), (4 : Int), (0 : Int)], [(3 : Int), (4 : Int), (0 : Int), (1 : Int), (2 : Int)]])
def G55 (ds : List D) (d : D) : Prop := ∃ (N : Nat) (r : (List (List Int))), ds = [] ∧ f55 N  = some r ∧ d = sl_sl_iN r
theorem G55.step {N : Nat} {ρ : Type} {A : (List (List Int)) → Option ρ} {q : ρ} {ds : List D} {K : D → Prop} (hd : ds = []) (h : ∀ r, A r = some q → K (sl_sl_iN r)) (hF : (f55 N ).bind A = some q) : ∃ d, G55 ds d ∧ K d := by
  obtain ⟨r, hr, hA⟩ := bind_some hF
  exact ⟨_, ⟨N, r, hd, hr, rfl⟩, h r hA⟩
set_option maxRecDepth 20000 in
set_option maxHeartbeats 4000000 in
theorem P55 : PureOK Try.prog 55 G55 := by
  refine pure_of_vc (c := mkCtx tyTree []) rfl tyOK (ctx_nil) [[1]] 0 Try.func55 rfl rfl (by decide) (by kernel_rfl) ?_
  rintro ds d ⟨N, r, rfl, hF, rfl⟩ hok
  clear hok
  refine ⟨rfl, ?_⟩
  show vc _ _ _ _ ⟨[], []⟩ _
  unfold f55 at hF
  repeat' (first
    | ((with_reducible first | refine q0 _ _ ?_ | refine q1 _ _ _ _ ?_ | refine q2 _ _ _ ?_); clear Q q0 q1 q2)
    | ((with_reducible first | refine seq_op ?hx (fun Q q0 q1 q2 => ?_)); (case hx => exact rfl); conv => whnf)
    | ((with_reducible refine seq_nil ?_); (first | ((with_reducible refine hR _ ?_); clear R hR) | ((with_reducible refine hL _ ?_); clear L hL)))
    | ((with_reducible first | refine int_step ?_); conv => whnf)
    | (with_reducible first | refine vc_skip ?_ | refine vc_ret ?_ | refine vc_region (fun R hR => ?_) | refine k_seq_ret ?_)
    | ((with_reducible refine vc_seqN [] ?hx ?_); (case hx => exact rfl))
    | ((refine row_all ?hn ?_); (case hn => first | exact rfl | (simp; done) | (simp; omega)); conv => whnf)
    | ((with_reducible refine le_step ?hn ?_); (case hn => first | exact rfl | assumption | omega); conv => whnf)
    | ((refine ⟨?hx, ?_⟩); (case hx => exact ⟨rfl, Nat.le_of_ble_eq_true rfl, rfl⟩); conv => whnf)
    | ((with_reducible refine ex_step ?_); conv => whnf)
    | ((with_reducible refine both_T ?hx ?_); (case hx => first | exact rfl | assumption | exact notT (by assumption)); conv => whnf)
    | ((with_reducible refine both_F ?hx ?_); (case hx => first | exact rfl | assumption | exact notF (by assumption)); conv => whnf)
    | (revert hF; (with_reducible refine ite_step ?_ ?_) <;> (intro hc hF; conv => whnf))
    | (show retD _ _ _ _ _ _; conv => whnf)
    | ((refine ⟨?hx, trivial⟩); (case hx => (cases hF; exact rfl)))
    | ((refine ⟨?hx, ?_⟩); (case hx => decide); conv => whnf)
    | with_reducible refine k_seq ?_
    | (have hF : (none : Option _) = some _ := hF; cases hF))
end
end Go.Vc
namespace Go.Vc
open Go.Proofs
set_option linter.unusedVariables false
set_option linter.unnecessarySimpa false
set_option linter.unusedSimpArgs false
section
variable {c : Ctx} {p nid : Nat} {a b : Code} {st : St} {K : Ex → St → Prop}
/- f56: tusche/tuschelaw01.list -/
def f56 (N : Nat) (a0 : List Int) : Option ((List Int)) :=
 some (a0)
def G56 (ds : List D) (d : D) : Prop := ∃ (N : Nat) (a0 : List Int) (r : (List Int)), ds = [sl_iN a0] ∧ f56 N a0 = some r ∧ d = sl_iN r
theorem G56.step {N : Nat} {a0 : List Int} {ρ : Type} {A : (List Int) → Option ρ} {q : ρ} {ds : List D} {K : D → Prop} (hd : ds = [sl_iN a0]) (h : ∀ r, A r = some q → K (sl_iN r)) (hF : (f56 N a0).bind A = some q) : ∃ d, G56 ds d ∧ K d := by
  obtain ⟨r, hr, hA⟩ := bind_some hF
  exact ⟨_, ⟨N, a0, r, hd, hr, rfl⟩, h r hA⟩
set_option maxRecDepth 20000 in
set_option maxHeartbeats 4000000 in
theorem P56 : PureOK Try.prog 56 G56 := by
  refine pure_of_vc (c := mkCtx tyTree []) rfl tyOK (ctx_nil) [[1]] 1 Try.func56 rfl rfl (by decide) (by kernel_rfl) ?_
  rintro ds d ⟨N, a0, r, rfl, hF, rfl⟩ hok
  clear hok
  refine ⟨rfl, ?_⟩
  show vc _ _ _ _ ⟨[(0, .dat (sl_iN a0))], []⟩ _
  unfold f56 at hF
  repeat' (first
    | ((with_reducible first | refine q0 _ _ ?_ | refine q1 _ _ _ _ ?_ | refine q2 _ _ _ ?_); clear Q q0 q1 q2)
    | ((with_reducible first | refine seq_op ?hx (fun Q q0 q1 q2 => ?_)); (case hx => exact rfl); conv => whnf)
    | ((with_reducible refine seq_nil ?_); (first | ((with_reducible refine hR _ ?_); clear R hR) | ((with_reducible refine hL _ ?_); clear L hL)))
    | ((with_reducible first | refine int_step ?_); conv => whnf)
    | (with_reducible first | refine vc_skip ?_ | refine vc_ret ?_ | refine vc_region (fun R hR => ?_) | refine k_seq_ret ?_)
    | ((with_reducible refine vc_seqN [] ?hx ?_); (case hx => exact rfl))
    | ((refine row_all ?hn ?_); (case hn => first | exact rfl | (simp; done) | (simp; omega)); conv => whnf)
    | ((with_reducible refine le_step ?hn ?_); (case hn => first | exact rfl | assumption | omega); conv => whnf)
    | ((refine ⟨?hx, ?_⟩); (case hx => exact ⟨rfl, Nat.le_of_ble_eq_true rfl, rfl⟩); conv => whnf)
    | ((with_reducible refine ex_step ?_); conv => whnf)
    | ((with_reducible refine both_T ?hx ?_); (case hx => first | exact rfl | assumption | exact notT (by assumption)); conv => whnf)
    | ((with_reducible refine both_F ?hx ?_); (case hx => first | exact rfl | assumption | exact notF (by assumption)); conv => whnf)
    | (revert hF; (with_reducible refine ite_step ?_ ?_) <;> (intro hc hF; conv => whnf))
    | (show retD _ _ _ _ _ _; conv => whnf)
    | ((refine ⟨?hx, trivial⟩); (case hx => (cases hF; exact rfl)))
    | ((refine ⟨?hx, ?_⟩); (case hx => decide); conv => whnf)
    | with_reducible refine k_seq ?_
    | (have hF : (none : Option _) = some _ := hF; cases hF))
end
end Go.Vc
namespace Go.Vc
open Go.Proofs
set_option linter.unusedVariables false
set_option linter.unnecessarySimpa false
set_option linter.unusedSimpArgs false
section
variable {c : Ctx} {p nid : Nat} {a b : Code} {st : St} {K : Ex → St → Prop}
/- f15: tusche/tuschelaw01.works -/
def f15 (N : Nat) : Option (Bool) :=
 (f41 N (5 : Int) (2 : Int)).bind fun x1 =>
 (f55 N ).bind fun x2 =>
 (f56 N [(1 : Int), (2 : Int)]).bind fun x3 =>
 (f21 N x2 x3).bind fun x4 =>
 (f55 N ).bind fun x5 =>
 (f56 N [(3 : Int)]).bind fun x6 =>
 (f23 N x5 x6).bind fun x7 =>
 (f55 N ).bind fun x8 =>
 (f43 N x8).bind fun x9 =>
 (f55 N ).bind fun x10 =>
 (f56 N [(1 : Int), (2 : Int), (3 : Int)]).bind fun x11 =>
 (f29 N x10 x11).bind fun x12 =>
 (f55 N ).bind fun x13 =>
 (f56 N [(2 : Int), (1 : Int), (2 : Int)]).bind fun x14 =>
 (f31 N x13 x14).bind fun x15 =>
 (f55 N ).bind fun x16 =>
 (f56 N [(1 : Int), (2 : Int), (2 : Int)]).bind fun x17 =>
 (f25 N x16 x17 (0 : Int)).bind fun x18 =>
 (f55 N ).bind fun x19 =>
 (f35 N x19 (3 : Int) (7 : Int)).bind fun x20 =>
 (f16 N (strC [55, 48])).bind fun x21 =>
 bif decide (¬ x1.2 = (0 : Int)) then (some (false))
 else (bif decide (¬ x4.2 = (0 : Int)) then (some (false))
 else (bif decide (¬ x7.2 = (0 : Int)) then (some (false))
 else (bif decide (¬ x9.2 = (0 : Int)) then (some (false))
 else (bif decide (¬ x12.2 = (0 : Int)) then (some (false))
 else (bif decide (¬ x15.2 = (0 : Int)) then (some (false))
 else (bif decide (¬ x18.2 = (0 : Int)) then (some (false))
 else (bif decide (¬ x20.2 = (0 : Int)) then (some (false))
 else (bif !x21.2 then (some (false))
 else ((f55 N ).bind fun x22 =>
 (f56 N [(1 : Int), (2 : Int), (2 : Int)]).bind fun x23 =>
 (f37 N x22 x23).bind fun x24 =>
 bif decide (x24.2 = (0 : Int)) then ((f55 N ).bind fun x25 =>
 (f47 N x1.1 x25).bind fun x26 =>
 bif x26 then (bif decide (x4.1 = (4 : Int)) then (bif decide (x7.1 = (4 : Int)) then (bif decide ((List.length x9.1 : Int) = (0 : Int)) then ((f33 N x12.1 [(Fix.mk (0 : Int) (2 : Int)), (Fix.mk (1 : Int) (4 : Int)), (Fix.mk (2 : Int) (2 : Int))]).bind fun x27 =>
 bif x27 then ((f56 N [(0 : Int)]).bind fun x28 =>
 (f34 N x15.1 x28).bind fun x29 =>
 bif x29 then (bif decide (x18.1 = (1 : Int)) then ((f56 N [(1 : Int), (2 : Int), (2 : Int)]).bind fun x30 =>
 (f34 N x20.1 x30).bind fun x31 =>
 bif x31 then (bif decide (x24.1 = (7 : Int)) then (bif decide (x21.1 = (70 : Int)) then ((f55 N ).bind fun x32 =>
 (f56 N [(1 : Int), (2 : Int), (2 : Int)]).bind fun x33 =>
 (f27 N x32 x33).bind fun x34 =>
 bif decide (x34 = (0 : Int)) then ((f55 N ).bind fun x35 =>
 (f56 N [(1 : Int), (2 : Int), (3 : Int)]).bind fun x36 =>
 (f27 N x35 x36).bind fun x37 =>
 bif decide (x37 = (13 : Int)) then ((f18 N (strC [115, 116, 111, 110, 101])).bind fun x38 =>
 bif x38 then ((f18 N (strC [83, 116, 111, 110, 101])).bind fun x39 =>
 some (!x39))
 else (some (false)))
 else (some (false)))
 else (some (false)))
 else (some (false)))
 else (some (false)))
 else (some (false)))
 else (some (false)))
 else (some (false)))
 else (some (false)))
 else (some (false)))
 else (some (false)))
 else (some (false)))
 else (some (false)))
 else (some (false)))))))))))
def G15 (ds : List D) (d : D) : Prop := ∃ (N : Nat) (r : Bool), ds = [] ∧ f15 N  = some r ∧ d = bN r
theorem G15.lend {N : Nat} {ρ : Type} {A : Bool → Option ρ} {q : ρ} {ds : List D} {K : D → Prop} (hd : ds = []) (h : ∀ r, A r = some q → K (bN r)) (hF : (f15 N ).bind A = some q) : ∃ d, (G15 ds d ∧ d.flatB = true) ∧ K d := by
  obtain ⟨r, hr, hA⟩ := bind_some hF
  exact ⟨_, ⟨⟨N, r, hd, hr, rfl⟩, rfl⟩, h r hA⟩
theorem G15.step {N : Nat} {ρ : Type} {A : Bool → Option ρ} {q : ρ} {ds : List D} {K : D → Prop} (hd : ds = []) (h : ∀ r, A r = some q → K (bN r)) (hF : (f15 N ).bind A = some q) : ∃ d, G15 ds d ∧ K d := by
  obtain ⟨r, hr, hA⟩ := bind_some hF
  exact ⟨_, ⟨N, r, hd, hr, rfl⟩, h r hA⟩
set_option maxRecDepth 20000 in
set_option maxHeartbeats 4000000 in
theorem P15 : PureOK Try.prog 15 G15 := by
  refine pure_of_vc (c := mkCtx tyTree [(56, true, purePg [[1]] G56), (55, true, purePg [] G55), (47, true, lendPg [[1], [1]] G47), (43, true, purePg [[1]] G43), (41, true, purePg [[0], [0]] G41), (37, true, lendPg [[1], [1]] G37), (35, true, purePg [[1], [0], [0]] G35), (34, true, lendPg [[1], [1]] G34), (33, true, lendPg [[2], [2]] G33), (31, true, purePg [[1], [1]] G31), (29, true, purePg [[1], [1]] G29), (27, true, lendPg [[1], [1]] G27), (25, true, lendPg [[1], [1], [0]] G25), (23, true, lendPg [[1], [1]] G23), (21, true, lendPg [[1], [1]] G21), (18, true, lendPg [[0]] G18), (16, true, lendPg [[0]] G16)]) rfl tyOK (ctx_cons (callable Try.func56 rfl rfl) P56 (ctx_cons (callable Try.func55 rfl rfl) P55 (ctx_lend (callable Try.func47 rfl rfl) P47 (ctx_cons (callable Try.func43 rfl rfl) P43 (ctx_cons (callable Try.func41 rfl rfl) P41 (ctx_lend (callable Try.func37 rfl rfl) P37 (ctx_cons (callable Try.func35 rfl rfl) P35 (ctx_lend (callable Try.func34 rfl rfl) P34 (ctx_lend (callable Try.func33 rfl rfl) P33 (ctx_cons (callable Try.func31 rfl rfl) P31 (ctx_cons (callable Try.func29 rfl rfl) P29 (ctx_lend (callable Try.func27 rfl rfl) P27 (ctx_lend (callable Try.func25 rfl rfl) P25 (ctx_lend (callable Try.func23 rfl rfl) P23 (ctx_lend (callable Try.func21 rfl rfl) P21 (ctx_lend (callable Try.func18 rfl rfl) P18 (ctx_lend (callable Try.func16 rfl rfl) P16 (ctx_nil)))))))))))))))))) [[0]] 0 Try.func15 rfl rfl (by decide) (by kernel_rfl) ?_
  rintro ds d ⟨N, r, rfl, hF, rfl⟩ hok
  clear hok
  refine ⟨rfl, ?_⟩
  show vc _ _ _ _ ⟨[], []⟩ _
  unfold f15 at hF
  repeat' (first
    | ((with_reducible first | refine q0 _ _ ?_ | refine q1 _ _ _ _ ?_ | refine q2 _ _ _ ?_); clear Q q0 q1 q2)
    | ((with_reducible first | refine seq_op ?hx (fun Q q0 q1 q2 => ?_)); (case hx => exact rfl); conv => whnf)
    | ((with_reducible first | refine seq_off ?hx ?_ | refine seq_off0 ?hx ?_ | refine k_blk_out ?hx ?_ | refine vc_condT ?hx ?_); (case hx => exact rfl))
    | ((with_reducible refine seq_id ?_); (first | ((first | refine seq_opK rfl ?hy (fun Q q0 q1 q2 => ?_) | refine seq_opK0 rfl ?hy (fun Q q0 q1 q2 => ?_)); (case hy => first | assumption | exact notT (by assumption) | exact rfl); conv => whnf) | ((first | refine seq_offK rfl ?hy ?_ | refine seq_offK0 rfl ?hy ?_); (case hy => first | assumption | exact notF (by assumption) | exact rfl)) | (revert hF; (with_reducible first | refine seq_opF ?hx ?_ ?_ | refine seq_opF0 ?hx ?_ ?_); (case hx => exact rfl); (intro hc hF Q q0 q1 q2; conv => whnf); rotate_left; (intro hc hF); rotate_right) | (revert hF; (with_reducible first | refine seq_opN ?hx ?_ ?_ | refine seq_opN0 ?hx ?_ ?_); (case hx => exact rfl); (intro hc hF); rotate_left; (intro hc hF Q q0 q1 q2; conv => whnf); rotate_right)))
    | ((with_reducible refine cond_id ?_); (first | ((refine condKT rfl ?hy ?_); (case hy => first | assumption | exact notT (by assumption) | exact rfl)) | ((refine condKF rfl ?hy ?_); (case hy => first | assumption | exact notF (by assumption) | exact rfl)) | (revert hF; (with_reducible refine condF ?hx ?_ ?_); (case hx => exact rfl); all_goals (intro hc hF))))
    | ((with_reducible refine seq_nil ?_); (first | ((with_reducible refine hR _ ?_); clear R hR) | ((with_reducible refine hL _ ?_); clear L hL)))
    | ((with_reducible first | refine int_step ?_ | refine len_step ?_); conv => whnf)
    | (with_reducible first | refine vc_block ?_ | refine vc_skip ?_ | refine vc_ret ?_ | refine vc_exit ?_ | refine k_seq_ret ?_ | refine k_seq_exit ?_ | refine k_blk ?_ | refine k_blk_ret ?_ | refine k_blk_here ?_)
    | ((with_reducible refine vc_seqN [] ?hx ?_); (case hx => exact rfl))
    | ((with_reducible refine vc_region (fun R hR => ?_)); (try simp only [List.append_eq, List.cons_append, List.nil_append]))
    | (revert hF; (with_reducible refine G16.lend ?hx ?_); (case hx => exact rfl); intro v hF; conv => whnf)
    | (revert hF; (with_reducible refine G18.lend ?hx ?_); (case hx => exact rfl); intro v hF; conv => whnf)
    | (revert hF; (with_reducible refine G21.lend ?hx ?_); (case hx => exact rfl); intro v hF; conv => whnf)
    | (revert hF; (with_reducible refine G23.lend ?hx ?_); (case hx => exact rfl); intro v hF; conv => whnf)
    | (revert hF; (with_reducible refine G25.lend ?hx ?_); (case hx => exact rfl); intro v hF; conv => whnf)
    | (revert hF; (with_reducible refine G27.lend ?hx ?_); (case hx => exact rfl); intro v hF; conv => whnf)
    | (revert hF; (with_reducible refine G29.step ?hx ?_); (case hx => exact rfl); intro v hF; conv => whnf)
    | (revert hF; (with_reducible refine G31.step ?hx ?_); (case hx => exact rfl); intro v hF; conv => whnf)
    | (revert hF; (with_reducible refine G33.lend ?hx ?_); (case hx => exact rfl); intro v hF; conv => whnf)
    | (revert hF; (with_reducible refine G34.lend ?hx ?_); (case hx => exact rfl); intro v hF; conv => whnf)
    | (revert hF; (with_reducible refine G35.step ?hx ?_); (case hx => exact rfl); intro v hF; conv => whnf)
    | (revert hF; (with_reducible refine G37.lend ?hx ?_); (case hx => exact rfl); intro v hF; conv => whnf)
    | (revert hF; (with_reducible refine G41.step ?hx ?_); (case hx => exact rfl); intro v hF; conv => whnf)
    | (revert hF; (with_reducible refine G43.step ?hx ?_); (case hx => exact rfl); intro v hF; conv => whnf)
    | (revert hF; (with_reducible refine G47.lend ?hx ?_); (case hx => exact rfl); intro v hF; conv => whnf)
    | (revert hF; (with_reducible refine G55.step ?hx ?_); (case hx => exact rfl); intro v hF; conv => whnf)
    | (revert hF; (with_reducible refine G56.step ?hx ?_); (case hx => exact rfl); intro v hF; conv => whnf)
    | ((refine row_all ?hn ?_); (case hn => first | exact rfl | (simp; done) | (simp; omega)); conv => whnf)
    | ((with_reducible refine le_step ?hn ?_); (case hn => first | exact rfl | assumption | omega); conv => whnf)
    | ((refine ⟨?hx, ?_⟩); (case hx => exact ⟨rfl, Nat.le_of_ble_eq_true rfl, rfl⟩); conv => whnf)
    | ((with_reducible refine ex_step ?_); conv => whnf)
    | ((with_reducible refine both_T ?hx ?_); (case hx => first | exact rfl | assumption | exact notT (by assumption)); conv => whnf)
    | ((with_reducible refine both_F ?hx ?_); (case hx => first | exact rfl | assumption | exact notF (by assumption)); conv => whnf)
    | (revert hF; (with_reducible refine ite_step ?_ ?_) <;> (intro hc hF; conv => whnf))
    | ((with_reducible refine vc_condF ?hx ?_); (case hx => exact rfl))
    | (show retD _ _ _ _ _ _; conv => whnf)
    | ((refine ⟨?hx, trivial⟩); (case hx => (cases hF; exact rfl)))
    | ((refine ⟨?hx, ?_⟩); (case hx => decide); conv => whnf)
    | with_reducible refine k_seq ?_
    | (have hF : (none : Option _) = some _ := hF; cases hF))
end
end Go.Vc

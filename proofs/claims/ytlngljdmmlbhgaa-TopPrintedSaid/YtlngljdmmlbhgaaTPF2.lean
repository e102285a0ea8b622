/-
  A library for proofs about Go functions by symbolic evaluation, and plain Lean functions that the walked Go functions compute (written by a program of this claim).
-/
import Derived.Test.YtlngljdmmlbhgaaTPF1
import Derived.Test.YtlngljdmmlbhgaaVc3
namespace Go.Vc
open Go.Proofs
set_option linter.unusedVariables false
set_option linter.unnecessarySimpa false
set_option linter.unusedSimpArgs false
section
variable {c : Ctx} {p nid : Nat} {a b : Code} {st : St} {K : Ex → St → Prop}
def f3_c40 (N : Nat) : Option (Bool) :=
 (f12 N ).bind fun x11 =>
 some (x11)
def Lf3_c40 (N : Nat) : Lp (Unit) Unit (Bool) := lp0 ⟨[], [], [], []⟩ (fun _ => []) (fun _ => []) (fun _ => f3_c40 N)
theorem Ef3_c40 {N} : (Lf3_c40 N).E () = f3_c40 N := rfl
def f3_35b (r35 : Int → Option (Bool)) (a0 : Int) (N : Nat) (b302_1 : List (List Int)) (k0 : Option (Bool)) (v31 : Int) : Option (Bool) :=
 bif decide (v31 < (W ((2 : Int) + (Int.tmod a0 (5 : Int))))) then ((f11 N (Palette.mk (W ((2 : Int) + (Int.tmod a0 (5 : Int)))) b302_1) v31).bind fun x12 =>
 bif decide (¬ x12.2 = (0 : Int)) then (some (false))
 else (bif decide (¬ x12.1 = (min v31 (1 : Int))) then (some (false))
 else (r35 (W (v31 + (1 : Int))))))
 else k0
def f3_35 (a0 : Int) (N : Nat) (b302_1 : List (List Int)) (k0 : Option (Bool)) : Nat → Int → Option (Bool)
  | 0, _ => none
  | n + 1, v31 => f3_35b (f3_35 a0 N b302_1 k0 n) a0 N b302_1 k0 v31
def Lf3_35 (a0 : Int) (N : Nat) (b302_1 : List (List Int)) (k0 : Option (Bool)) : Lp (Nat × Int) (Nat) (Bool) := ⟨⟨[11, 13, 31], [302, 90500], [], [90500]⟩, fun (_, v31) => [.dat (iN (W ((2 : Int) + (Int.tmod a0 (5 : Int))))), .ptr 302 0, .dat (iN v31)], fun (_, _) => [.box [.dat (iN (W ((2 : Int) + (Int.tmod a0 (5 : Int))))), .rs 90500 (List.length b302_1)], .fz 28 1 (List.map sl_iN b302_1)], fun (n, v31) => f3_35 a0 N b302_1 k0 n v31, fun (_, v31) _ => [.dat (iN (W ((2 : Int) + (Int.tmod a0 (5 : Int))))), .ptr 302 0, .dat (iN v31)], fun (_, _) m0 => [.box [.dat (iN (W ((2 : Int) + (Int.tmod a0 (5 : Int))))), .rs 90500 m0], .fz 28 1 (List.map sl_iN b302_1)], fun (_, _) => List.length b302_1, fun _ => rfl, fun _ => rfl⟩
theorem Ef3_35 {a0 N b302_1 k0 n v31} : (Lf3_35 a0 N b302_1 k0).E (n, v31) = f3_35 a0 N b302_1 k0 n v31 := rfl
def f3_c31 (a0 : Int) (N : Nat) (b302_1 : List (List Int)) : Option (Bool) :=
 (f10 N (Palette.mk (W ((2 : Int) + (Int.tmod a0 (5 : Int)))) b302_1)).bind fun x10 =>
 bif decide (¬ x10.2 = (0 : Int)) then (some (false))
 else (bif decide (¬ (List.length x10.1 : Int) = (W ((2 : Int) + (Int.tmod a0 (5 : Int))))) then (some (false))
 else (joinK (f3_c40 N) fun k0 =>
 f3_35 a0 N b302_1 k0 N (0 : Int)))
def Lf3_c31 (a0 : Int) (N : Nat) (b302_1 : List (List Int)) : Lp (Unit) (Nat) (Bool) := ⟨⟨[11, 13], [302, 90500], [], []⟩, fun _ => [.dat (iN (W ((2 : Int) + (Int.tmod a0 (5 : Int))))), .ptr 302 0], fun _ => [.box [.dat (iN (W ((2 : Int) + (Int.tmod a0 (5 : Int))))), .rs 90500 (List.length b302_1)], .row 28 1 (List.map sl_iN b302_1)], fun _ => f3_c31 a0 N b302_1, fun _ _ => [.dat (iN (W ((2 : Int) + (Int.tmod a0 (5 : Int))))), .ptr 302 0], fun _ m0 => [.box [.dat (iN (W ((2 : Int) + (Int.tmod a0 (5 : Int))))), .rs 90500 m0], .row 28 1 (List.map sl_iN b302_1)], fun _ => List.length b302_1, fun _ => rfl, fun _ => rfl⟩
theorem Ef3_c31 {a0 N b302_1} : (Lf3_c31 a0 N b302_1).E () = f3_c31 a0 N b302_1 := rfl
def f3_c23 (a0 : Int) (N : Nat) (x1 : List (List Int)) (b302_1 : List (List Int)) (v17 : List Int) (v18 : List Int) (v19 : List Bool) : Option (Bool) :=
 (f6 N (Palette.mk (W ((2 : Int) + (Int.tmod a0 (5 : Int)))) b302_1) v17 v19).bind fun x2 =>
 (f7 N x1 v18).bind fun x3 =>
 bif decide (¬ x2.2 = (0 : Int)) then (some (false))
 else (bif decide (¬ x3.2 = (0 : Int)) then (some (false))
 else (bif decide (¬ x2.1 = x3.1) then (some (false))
 else ((f8 N x1 v18).bind fun x4 =>
 (app 8 [] v17).bind fun x5 =>
 (app 8 x5 [x4.1]).bind fun x6 =>
 (app 1 [] v19).bind fun x7 =>
 (app 1 x7 [true]).bind fun x8 =>
 (f6 N (Palette.mk (W ((2 : Int) + (Int.tmod a0 (5 : Int)))) b302_1) x6 x8).bind fun x9 =>
 joinK (f3_c31 a0 N b302_1) fun k1 =>
 bif decide (¬ x4.2 = (0 : Int)) then (some (false))
 else (bif decide (¬ x9.2 = (0 : Int)) then (some (false))
 else (bif decide (¬ x9.1 = (0 : Int)) then (some (false))
 else (bif decide ((0 : Int) < (List.length v18 : Int)) then ((app 8 [] v18).bind fun x13 =>
 (app 8 x13 [x4.1]).bind fun x14 =>
 (f9 N x1 x14).bind fun x15 =>
 bif decide (¬ x15 = (0 : Int)) then (some (false))
 else k1)
 else k1))))))
def Lf3_c23 (a0 : Int) (N : Nat) (x1 : List (List Int)) (b302_1 : List (List Int)) : Lp ((List Int) × (List Int) × (List Bool)) (Nat × Nat × Nat × Nat) (Bool) := ⟨⟨[11, 12, 13, 17, 18, 19], [302, 90017, 90018, 90019, 90500], [(.slot 17, 90017, 3, 1), (.slot 18, 90018, 3, 1), (.slot 19, 90019, 4, 1)], []⟩, fun (v17, v18, v19) => [.dat (iN (W ((2 : Int) + (Int.tmod a0 (5 : Int))))), .dat (sl_sl_iN x1), .ptr 302 0, .rs 90017 (List.length v17), .rs 90018 (List.length v18), .rs 90019 (List.length v19)], fun (v17, v18, v19) => [.box [.dat (iN (W ((2 : Int) + (Int.tmod a0 (5 : Int))))), .rs 90500 (List.length b302_1)], .row 3 1 (List.map iN v17), .row 3 1 (List.map iN v18), .row 4 1 (List.map bN v19), .row 28 1 (List.map sl_iN b302_1)], fun (v17, v18, v19) => f3_c23 a0 N x1 b302_1 v17 v18 v19, fun (_, _, _) (m0, m1, m2, _) => [.dat (iN (W ((2 : Int) + (Int.tmod a0 (5 : Int))))), .dat (sl_sl_iN x1), .ptr 302 0, .rs 90017 m0, .rs 90018 m1, .rs 90019 m2], fun (v17, v18, v19) (_, _, _, m3) => [.box [.dat (iN (W ((2 : Int) + (Int.tmod a0 (5 : Int))))), .rs 90500 m3], .row 3 1 (List.map iN v17), .row 3 1 (List.map iN v18), .row 4 1 (List.map bN v19), .row 28 1 (List.map sl_iN b302_1)], fun (v17, v18, v19) => (List.length v17, List.length v18, List.length v19, List.length b302_1), fun _ => rfl, fun _ => rfl⟩
theorem Ef3_c23 {a0 N x1 b302_1 v17 v18 v19} : (Lf3_c23 a0 N x1 b302_1).E (v17, v18, v19) = f3_c23 a0 N x1 b302_1 v17 v18 v19 := rfl
def f3_17b (r17 : (List Int) → (List Int) → (List Bool) → Int → Option (Bool)) (a0 : Int) (a3 : List Int) (a4 : Int) (x1 : List (List Int)) (b302_1 : List (List Int)) (k2 : (List Int) → (List Int) → (List Bool) → Option (Bool)) (v17 : List Int) (v18 : List Int) (v19 : List Bool) (v20 : Int) : Option (Bool) :=
 bif decide (v20 < (List.length a3 : Int)) then (bif decide (v20 < (10 : Int)) then ((ix a3 v20).bind fun x16 =>
 (chk (decide ((W ((2 : Int) + (Int.tmod a0 (5 : Int)))) ≠ 0))).bind fun _ =>
 (app 8 v17 [Int.tmod x16 (W ((2 : Int) + (Int.tmod a0 (5 : Int))))]).bind fun x17 =>
 (chk (decide (0 ≤ v20))).bind fun _ =>
 (app 1 v19 [decide ((bitsI .and .u16 (Int.fdiv a4 (2 ^ (min (Int.toNat v20) 16))) (1 : Int)) = (1 : Int))]).bind fun x18 =>
 (ix x18 v20).bind fun x19 =>
 bif x19 then ((app 8 v18 [Int.tmod x16 (W ((2 : Int) + (Int.tmod a0 (5 : Int))))]).bind fun x20 =>
 r17 x17 x20 x18 (W (v20 + (1 : Int))))
 else (r17 x17 v18 x18 (W (v20 + (1 : Int)))))
 else (k2 v17 v18 v19))
 else (k2 v17 v18 v19)
def f3_17 (a0 : Int) (a3 : List Int) (a4 : Int) (x1 : List (List Int)) (b302_1 : List (List Int)) (k2 : (List Int) → (List Int) → (List Bool) → Option (Bool)) : Nat → (List Int) → (List Int) → (List Bool) → Int → Option (Bool)
  | 0, _, _, _, _ => none
  | n + 1, v17, v18, v19, v20 => f3_17b (f3_17 a0 a3 a4 x1 b302_1 k2 n) a0 a3 a4 x1 b302_1 k2 v17 v18 v19 v20
def Lf3_17 (a0 : Int) (a3 : List Int) (a4 : Int) (x1 : List (List Int)) (b302_1 : List (List Int)) (k2 : (List Int) → (List Int) → (List Bool) → Option (Bool)) : Lp (Nat × (List Int) × (List Int) × (List Bool) × Int) (Nat × Nat × Nat × Nat) (Bool) := ⟨⟨[3, 4, 11, 12, 13, 17, 18, 19, 20], [302, 90017, 90018, 90019, 90500], [(.slot 17, 90017, 3, 1), (.slot 18, 90018, 3, 1), (.slot 19, 90019, 4, 1)], []⟩, fun (_, v17, v18, v19, v20) => [.dat (sl_u8N a3), .dat (u16N a4), .dat (iN (W ((2 : Int) + (Int.tmod a0 (5 : Int))))), .dat (sl_sl_iN x1), .ptr 302 0, .rs 90017 (List.length v17), .rs 90018 (List.length v18), .rs 90019 (List.length v19), .dat (iN v20)], fun (_, v17, v18, v19, _) => [.box [.dat (iN (W ((2 : Int) + (Int.tmod a0 (5 : Int))))), .rs 90500 (List.length b302_1)], .row 3 1 (List.map iN v17), .row 3 1 (List.map iN v18), .row 4 1 (List.map bN v19), .row 28 1 (List.map sl_iN b302_1)], fun (n, v17, v18, v19, v20) => f3_17 a0 a3 a4 x1 b302_1 k2 n v17 v18 v19 v20, fun (_, _, _, _, v20) (m0, m1, m2, _) => [.dat (sl_u8N a3), .dat (u16N a4), .dat (iN (W ((2 : Int) + (Int.tmod a0 (5 : Int))))), .dat (sl_sl_iN x1), .ptr 302 0, .rs 90017 m0, .rs 90018 m1, .rs 90019 m2, .dat (iN v20)], fun (_, v17, v18, v19, _) (_, _, _, m3) => [.box [.dat (iN (W ((2 : Int) + (Int.tmod a0 (5 : Int))))), .rs 90500 m3], .row 3 1 (List.map iN v17), .row 3 1 (List.map iN v18), .row 4 1 (List.map bN v19), .row 28 1 (List.map sl_iN b302_1)], fun (_, v17, v18, v19, _) => (List.length v17, List.length v18, List.length v19, List.length b302_1), fun _ => rfl, fun _ => rfl⟩
theorem Ef3_17 {a0 a3 a4 x1 b302_1 k2 n v17 v18 v19 v20} : (Lf3_17 a0 a3 a4 x1 b302_1 k2).E (n, v17, v18, v19, v20) = f3_17 a0 a3 a4 x1 b302_1 k2 n v17 v18 v19 v20 := rfl
def f3_c14 (a0 : Int) (a3 : List Int) (a4 : Int) (N : Nat) (x1 : List (List Int)) (b302_1 : List (List Int)) : Option (Bool) :=
 joinK (f3_c23 a0 N x1 b302_1) fun k2 =>
 f3_17 a0 a3 a4 x1 b302_1 k2 N [] [] [] (0 : Int)
def Lf3_c14 (a0 : Int) (a3 : List Int) (a4 : Int) (N : Nat) (x1 : List (List Int)) : Lp ((List (List Int))) (Nat) (Bool) := ⟨⟨[3, 4, 11, 12, 13], [302, 90500], [(.cell 302 1, 90500, 28, 1)], []⟩, fun _ => [.dat (sl_u8N a3), .dat (u16N a4), .dat (iN (W ((2 : Int) + (Int.tmod a0 (5 : Int))))), .dat (sl_sl_iN x1), .ptr 302 0], fun b302_1 => [.box [.dat (iN (W ((2 : Int) + (Int.tmod a0 (5 : Int))))), .rs 90500 (List.length b302_1)], .row 28 1 (List.map sl_iN b302_1)], fun b302_1 => f3_c14 a0 a3 a4 N x1 b302_1, fun _ _ => [.dat (sl_u8N a3), .dat (u16N a4), .dat (iN (W ((2 : Int) + (Int.tmod a0 (5 : Int))))), .dat (sl_sl_iN x1), .ptr 302 0], fun b302_1 m0 => [.box [.dat (iN (W ((2 : Int) + (Int.tmod a0 (5 : Int))))), .rs 90500 m0], .row 28 1 (List.map sl_iN b302_1)], fun b302_1 => List.length b302_1, fun _ => rfl, fun _ => rfl⟩
theorem Ef3_c14 {a0 a3 a4 N x1 b302_1} : (Lf3_c14 a0 a3 a4 N x1).E b302_1 = f3_c14 a0 a3 a4 N x1 b302_1 := rfl
def f3_c6 (a0 : Int) (a3 : List Int) (a4 : Int) (x1 : List (List Int)) (v14 : Int) (r5 : Int → (List (List Int)) → Option (Bool)) (b302_1' : List (List Int)) : Option (Bool) :=
 r5 (W (v14 + (1 : Int))) (b302_1')
def Lf3_c6 (a0 : Int) (a3 : List Int) (a4 : Int) (x1 : List (List Int)) (v14 : Int) (r5 : Int → (List (List Int)) → Option (Bool)) : Lp ((List (List Int))) (Nat) (Bool) := ⟨⟨[3, 4, 11, 12, 13, 14], [302, 90500], [(.cell 302 1, 90500, 28, 1)], []⟩, fun _ => [.dat (sl_u8N a3), .dat (u16N a4), .dat (iN (W ((2 : Int) + (Int.tmod a0 (5 : Int))))), .dat (sl_sl_iN x1), .ptr 302 0, .dat (iN v14)], fun b302_1' => [.box [.dat (iN (W ((2 : Int) + (Int.tmod a0 (5 : Int))))), .rs 90500 (List.length (b302_1'))], .row 28 1 (List.map sl_iN (b302_1'))], fun b302_1' => f3_c6 a0 a3 a4 x1 v14 r5 b302_1', fun _ _ => [.dat (sl_u8N a3), .dat (u16N a4), .dat (iN (W ((2 : Int) + (Int.tmod a0 (5 : Int))))), .dat (sl_sl_iN x1), .ptr 302 0, .dat (iN v14)], fun b302_1' m0 => [.box [.dat (iN (W ((2 : Int) + (Int.tmod a0 (5 : Int))))), .rs 90500 m0], .row 28 1 (List.map sl_iN (b302_1'))], fun b302_1' => List.length (b302_1'), fun _ => rfl, fun _ => rfl⟩
theorem Ef3_c6 {a0 a3 a4 x1 v14 r5 b302_1'} : (Lf3_c6 a0 a3 a4 x1 v14 r5).E b302_1' = f3_c6 a0 a3 a4 x1 v14 r5 b302_1' := rfl
def f3_c13 (a0 : Int) (a3 : List Int) (a4 : Int) (x1 : List (List Int)) (v14 : Int) (b302_1 : List (List Int)) (k4 : (List (List Int)) → Option (Bool)) (v15 : List Int) : Option (Bool) :=
 (app 24 b302_1 [v15]).bind fun x21 =>
 k4 x21
def Lf3_c13 (a0 : Int) (a3 : List Int) (a4 : Int) (x1 : List (List Int)) (v14 : Int) (b302_1 : List (List Int)) (k4 : (List (List Int)) → Option (Bool)) : Lp ((List Int)) (Nat × Nat) (Bool) := ⟨⟨[3, 4, 11, 12, 13, 14, 15], [302, 90015, 90500], [(.slot 15, 90015, 3, 1)], []⟩, fun v15 => [.dat (sl_u8N a3), .dat (u16N a4), .dat (iN (W ((2 : Int) + (Int.tmod a0 (5 : Int))))), .dat (sl_sl_iN x1), .ptr 302 0, .dat (iN v14), .rs 90015 (List.length v15)], fun v15 => [.box [.dat (iN (W ((2 : Int) + (Int.tmod a0 (5 : Int))))), .rs 90500 (List.length b302_1)], .row 3 1 (List.map iN v15), .row 28 1 (List.map sl_iN b302_1)], fun v15 => f3_c13 a0 a3 a4 x1 v14 b302_1 k4 v15, fun _ (m0, _) => [.dat (sl_u8N a3), .dat (u16N a4), .dat (iN (W ((2 : Int) + (Int.tmod a0 (5 : Int))))), .dat (sl_sl_iN x1), .ptr 302 0, .dat (iN v14), .rs 90015 m0], fun v15 (_, m1) => [.box [.dat (iN (W ((2 : Int) + (Int.tmod a0 (5 : Int))))), .rs 90500 m1], .row 3 1 (List.map iN v15), .row 28 1 (List.map sl_iN b302_1)], fun v15 => (List.length v15, List.length b302_1), fun _ => rfl, fun _ => rfl⟩
theorem Ef3_c13 {a0 a3 a4 x1 v14 b302_1 k4 v15} : (Lf3_c13 a0 a3 a4 x1 v14 b302_1 k4).E v15 = f3_c13 a0 a3 a4 x1 v14 b302_1 k4 v15 := rfl
def f3_9b (r9 : (List Int) → Int → Option (Bool)) (a0 : Int) (a3 : List Int) (a4 : Int) (x1 : List (List Int)) (v14 : Int) (b302_1 : List (List Int)) (k5 : (List Int) → Option (Bool)) (v15 : List Int) (v51 : Int) : Option (Bool) :=
 bif decide (v51 < (List.length x1 : Int)) then ((ix x1 v51).bind fun x22 =>
 (ix x22 v14).bind fun x23 =>
 (app 8 v15 [x23]).bind fun x24 =>
 r9 x24 (W (v51 + (1 : Int))))
 else (k5 v15)
def f3_9 (a0 : Int) (a3 : List Int) (a4 : Int) (x1 : List (List Int)) (v14 : Int) (b302_1 : List (List Int)) (k5 : (List Int) → Option (Bool)) : Nat → (List Int) → Int → Option (Bool)
  | 0, _, _ => none
  | n + 1, v15, v51 => f3_9b (f3_9 a0 a3 a4 x1 v14 b302_1 k5 n) a0 a3 a4 x1 v14 b302_1 k5 v15 v51
def Lf3_9 (a0 : Int) (a3 : List Int) (a4 : Int) (x1 : List (List Int)) (v14 : Int) (b302_1 : List (List Int)) (k5 : (List Int) → Option (Bool)) : Lp (Nat × (List Int) × Int) (Nat × Nat) (Bool) := ⟨⟨[3, 4, 11, 12, 13, 14, 15, 50, 51], [302, 90015, 90500], [(.slot 15, 90015, 3, 1)], []⟩, fun (_, v15, v51) => [.dat (sl_u8N a3), .dat (u16N a4), .dat (iN (W ((2 : Int) + (Int.tmod a0 (5 : Int))))), .dat (sl_sl_iN x1), .ptr 302 0, .dat (iN v14), .rs 90015 (List.length v15), .dat (iN (List.length x1 : Int)), .dat (iN v51)], fun (_, v15, _) => [.box [.dat (iN (W ((2 : Int) + (Int.tmod a0 (5 : Int))))), .rs 90500 (List.length b302_1)], .row 3 1 (List.map iN v15), .row 28 1 (List.map sl_iN b302_1)], fun (n, v15, v51) => f3_9 a0 a3 a4 x1 v14 b302_1 k5 n v15 v51, fun (_, _, v51) (m0, _) => [.dat (sl_u8N a3), .dat (u16N a4), .dat (iN (W ((2 : Int) + (Int.tmod a0 (5 : Int))))), .dat (sl_sl_iN x1), .ptr 302 0, .dat (iN v14), .rs 90015 m0, .dat (iN (List.length x1 : Int)), .dat (iN v51)], fun (_, v15, _) (_, m1) => [.box [.dat (iN (W ((2 : Int) + (Int.tmod a0 (5 : Int))))), .rs 90500 m1], .row 3 1 (List.map iN v15), .row 28 1 (List.map sl_iN b302_1)], fun (_, v15, _) => (List.length v15, List.length b302_1), fun _ => rfl, fun _ => rfl⟩
theorem Ef3_9 {a0 a3 a4 x1 v14 b302_1 k5 n v15 v51} : (Lf3_9 a0 a3 a4 x1 v14 b302_1 k5).E (n, v15, v51) = f3_9 a0 a3 a4 x1 v14 b302_1 k5 n v15 v51 := rfl
def f3_5b (r5 : Int → (List (List Int)) → Option (Bool)) (a0 : Int) (a3 : List Int) (a4 : Int) (N : Nat) (x1 : List (List Int)) (k3 : (List (List Int)) → Option (Bool)) (v14 : Int) (b302_1 : List (List Int)) : Option (Bool) :=
 bif decide (v14 < (W ((2 : Int) + (Int.tmod a0 (5 : Int))))) then (joinK (f3_c6 a0 a3 a4 x1 v14 r5) fun k4 =>
 joinK (f3_c13 a0 a3 a4 x1 v14 b302_1 k4) fun k5 =>
 f3_9 a0 a3 a4 x1 v14 b302_1 k5 N [] (0 : Int))
 else (k3 b302_1)
def f3_5 (a0 : Int) (a3 : List Int) (a4 : Int) (N : Nat) (x1 : List (List Int)) (k3 : (List (List Int)) → Option (Bool)) : Nat → Int → (List (List Int)) → Option (Bool)
  | 0, _, _ => none
  | n + 1, v14, b302_1 => f3_5b (f3_5 a0 a3 a4 N x1 k3 n) a0 a3 a4 N x1 k3 v14 b302_1
def Lf3_5 (a0 : Int) (a3 : List Int) (a4 : Int) (N : Nat) (x1 : List (List Int)) (k3 : (List (List Int)) → Option (Bool)) : Lp (Nat × Int × (List (List Int))) (Nat) (Bool) := ⟨⟨[3, 4, 11, 12, 13, 14], [302, 90500], [(.cell 302 1, 90500, 28, 1)], []⟩, fun (_, v14, _) => [.dat (sl_u8N a3), .dat (u16N a4), .dat (iN (W ((2 : Int) + (Int.tmod a0 (5 : Int))))), .dat (sl_sl_iN x1), .ptr 302 0, .dat (iN v14)], fun (_, _, b302_1) => [.box [.dat (iN (W ((2 : Int) + (Int.tmod a0 (5 : Int))))), .rs 90500 (List.length b302_1)], .row 28 1 (List.map sl_iN b302_1)], fun (n, v14, b302_1) => f3_5 a0 a3 a4 N x1 k3 n v14 b302_1, fun (_, v14, _) _ => [.dat (sl_u8N a3), .dat (u16N a4), .dat (iN (W ((2 : Int) + (Int.tmod a0 (5 : Int))))), .dat (sl_sl_iN x1), .ptr 302 0, .dat (iN v14)], fun (_, _, b302_1) m0 => [.box [.dat (iN (W ((2 : Int) + (Int.tmod a0 (5 : Int))))), .rs 90500 m0], .row 28 1 (List.map sl_iN b302_1)], fun (_, _, b302_1) => List.length b302_1, fun _ => rfl, fun _ => rfl⟩
theorem Ef3_5 {a0 a3 a4 N x1 k3 n v14 b302_1} : (Lf3_5 a0 a3 a4 N x1 k3).E (n, v14, b302_1) = f3_5 a0 a3 a4 N x1 k3 n v14 b302_1 := rfl
def f3 (N : Nat) (a0 : Int) (a1 : List Int) (a2 : List Int) (a3 : List Int) (a4 : Int) : Option (Bool) :=
 (f5 N (W ((2 : Int) + (Int.tmod a0 (5 : Int)))) a1 a2).bind fun x1 =>
 joinK (f3_c14 a0 a3 a4 N x1) fun k3 =>
 f3_5 a0 a3 a4 N x1 k3 N (0 : Int) []
def G3 (ds : List D) (d : D) : Prop := ∃ (N : Nat) (a0 : Int) (a1 : List Int) (a2 : List Int) (a3 : List Int) (a4 : Int) (r : Bool), ds = [u8N a0, sl_u8N a1, sl_u8N a2, sl_u8N a3, u16N a4] ∧ f3 N a0 a1 a2 a3 a4 = some r ∧ d = bN r
set_option maxRecDepth 20000 in
set_option maxHeartbeats 4000000 in
theorem P3 : PureOK Try.prog 3 G3 := by
  refine pure_of_vc (c := mkCtx tyTree [(12, true, lendPg [] G12), (11, true, lendPg [[0, 1], [0]] G11), (10, true, purePg [[0, 1]] G10), (9, true, lendPg [[1], [1]] G9), (8, true, lendPg [[1], [1]] G8), (7, true, lendPg [[1], [1]] G7), (6, true, lendPg [[0, 1], [1], [1]] G6), (5, true, purePg [[0], [1], [1]] G5)]) rfl tyOK (ctx_lend (callable Try.func12 rfl rfl) P12 (ctx_lend (callable Try.func11 rfl rfl) P11 (ctx_cons (callable Try.func10 rfl rfl) P10 (ctx_lend (callable Try.func9 rfl rfl) P9 (ctx_lend (callable Try.func8 rfl rfl) P8 (ctx_lend (callable Try.func7 rfl rfl) P7 (ctx_lend (callable Try.func6 rfl rfl) P6 (ctx_cons (callable Try.func5 rfl rfl) P5 (ctx_nil))))))))) [[0]] 5 Try.func3 rfl rfl (by decide) (by kernel_rfl) ?_
  rintro ds d ⟨N, a0, a1, a2, a3, a4, r, rfl, hF, rfl⟩ hok
  clear hok
  refine ⟨rfl, ?_⟩
  show vc _ _ _ _ ⟨[(0, .dat (u8N a0)), (1, .dat (sl_u8N a1)), (2, .dat (sl_u8N a2)), (3, .dat (sl_u8N a3)), (4, .dat (u16N a4))], []⟩ _
  unfold f3 at hF
  repeat' (first
    | ((with_reducible first | refine q0 _ _ ?_ | refine q1 _ _ _ _ ?_ | refine q2 _ _ _ ?_); clear Q q0 q1 q2)
    | ((with_reducible first | refine seq_op ?hx (fun Q q0 q1 q2 => ?_) | refine draw_op ?hx (fun Q q0 q1 q2 => ?_) | refine seq_op0 ?hx (fun Q q0 q1 q2 => ?_) | refine draw_op0 ?hx (fun Q q0 q1 q2 => ?_)); (case hx => exact rfl); conv => whnf)
    | ((with_reducible first | refine seq_off ?hx ?_ | refine seq_off0 ?hx ?_ | refine draw_off ?hx ?_ | refine draw_off0 ?hx ?_ | refine k_blk_out ?hx ?_ | refine vc_condT ?hx ?_); (case hx => exact rfl))
    | ((with_reducible refine seq_id ?_); (first | ((first | refine seq_opK rfl ?hy (fun Q q0 q1 q2 => ?_) | refine seq_opK0 rfl ?hy (fun Q q0 q1 q2 => ?_)); (case hy => first | assumption | exact notT (by assumption) | exact rfl); conv => whnf) | ((first | refine seq_offK rfl ?hy ?_ | refine seq_offK0 rfl ?hy ?_); (case hy => first | assumption | exact notF (by assumption) | exact rfl)) | (revert hF; (with_reducible first | refine seq_opF ?hx ?_ ?_ | refine seq_opF0 ?hx ?_ ?_); (case hx => exact rfl); (intro hc hF Q q0 q1 q2; conv => whnf); rotate_left; (intro hc hF); rotate_right) | (revert hF; (with_reducible first | refine seq_opN ?hx ?_ ?_ | refine seq_opN0 ?hx ?_ ?_); (case hx => exact rfl); (intro hc hF); rotate_left; (intro hc hF Q q0 q1 q2; conv => whnf); rotate_right)))
    | ((with_reducible refine cond_id ?_); (first | ((refine condKT rfl ?hy ?_); (case hy => first | assumption | exact notT (by assumption) | exact rfl)) | ((refine condKF rfl ?hy ?_); (case hy => first | assumption | exact notF (by assumption) | exact rfl)) | (revert hF; (with_reducible refine condF ?hx ?_ ?_); (case hx => exact rfl); all_goals (intro hc hF))))
    | ((with_reducible refine seq_nil ?_); (first | ((with_reducible refine hR _ ?_); clear R hR) | ((with_reducible refine hL _ ?_); clear L hL)))
    | ((with_reducible refine draw_nil ?_); (with_reducible refine hR _ _ ?hx ?_); (case hx => kernel_rfl); (first | clear R hR | clear hR))
    | ((with_reducible first | refine int_step ?_ | refine len_step ?_ | refine idx2 (by assumption) ?_ | refine idx3 (by assumption) ?_); conv => whnf)
    | (with_reducible first | refine vc_block ?_ | refine vc_skip ?_ | refine vc_ret ?_ | refine vc_exit ?_ | refine vc_region (fun R hR => ?_) | refine k_seq_ret ?_ | refine k_seq_exit ?_ | refine k_blk ?_ | refine k_blk_ret ?_ | refine k_blk_here ?_ | refine k_loop_ret ?_ | refine k_loop_exit ?_)
    | ((with_reducible refine vc_seqN [40, 31, 23, 14, 6, 13] ?hx ?_); (case hx => exact rfl))
    | ((with_reducible refine vc_draw ?hx (fun R hR => ?_)); (case hx => exact rfl))
    | ((with_reducible refine seq_id' ?_); (with_reducible replace hF := chkJ (f := f3_c40 _) hF); revert hF; (refine Lp.cut1 Lf3_c40 f3_c40 40 rfl rfl ?_ ?_); (intro hF); rotate_left; (rintro _ hF; dsimp only [Lf3_c40] at hF; unfold f3_c40 at hF); rotate_right)
    | ((with_reducible refine head_id ?_); (with_reducible replace hF := chkE (e := f3_c40 ..) hF); exact Lp.head Ef3_c40 hF () ⟨_, rfl, rfl, rfl, rfl⟩ rfl)
    | ((with_reducible refine loop_id ?_); (with_reducible replace hF := chkE (e := f3_35 ..) hF); revert hF; (refine Lp.loop Ef3_35 _ rfl ⟨_, rfl, rfl, rfl, rfl⟩ (by first | exact rfl | ((try dsimp only [Lf3_35]); first | assumption | omega | (simp only [List.length_set]; done))) (fun _ => rfl) ?_); rintro n v31 hF; dsimp only [Lf3_35, f3_35] at hF; unfold f3_35b at hF)
    | ((with_reducible refine back_id ?_); (with_reducible replace hF := chkE (e := f3_35 ..) hF); exact Lp.back Ef3_35 hF _ ⟨_, rfl, rfl, rfl, rfl⟩ (by first | exact rfl | ((try dsimp only [Lf3_35]); first | assumption | omega | (simp only [List.length_set]; done))))
    | ((with_reducible refine seq_id' ?_); (with_reducible replace hF := chkJ (f := f3_c31 _ _ _) hF); revert hF; (refine Lp.cut3 Lf3_c31 f3_c31 31 rfl rfl ?_ ?_); (intro hF); rotate_left; (rintro _ hF; dsimp only [Lf3_c31] at hF; unfold f3_c31 at hF); rotate_right)
    | ((with_reducible refine head_id ?_); (with_reducible replace hF := chkE (e := f3_c31 ..) hF); exact Lp.head Ef3_c31 hF _ ⟨_, rfl, rfl, rfl, rfl⟩ (by first | exact rfl | ((try dsimp only [Lf3_c31]); first | assumption | omega | (simp only [List.length_set]; done))))
    | ((with_reducible refine seq_id' ?_); (with_reducible replace hF := chkJ (f := f3_c23 _ _ _ _) hF); revert hF; (refine Lp.cut4 Lf3_c23 f3_c23 23 rfl rfl ?_ ?_); (intro hF); rotate_left; (rintro ⟨v17, v18, v19⟩ hF; dsimp only [Lf3_c23] at hF; unfold f3_c23 at hF); rotate_right)
    | ((with_reducible refine head_id ?_); (with_reducible replace hF := chkE (e := f3_c23 ..) hF); exact Lp.head Ef3_c23 hF (_, _, _, _) ⟨_, rfl, rfl, rfl, rfl⟩ (pr2 (by first | exact rfl | ((try dsimp only [Lf3_c23]); first | assumption | omega | (simp only [List.length_set]; done))) (pr2 (by first | exact rfl | ((try dsimp only [Lf3_c23]); first | assumption | omega | (simp only [List.length_set]; done))) (pr2 (by first | exact rfl | ((try dsimp only [Lf3_c23]); first | assumption | omega | (simp only [List.length_set]; done))) (by first | exact rfl | ((try dsimp only [Lf3_c23]); first | assumption | omega | (simp only [List.length_set]; done)))))))
    | ((with_reducible refine loop_id ?_); (with_reducible replace hF := chkE (e := f3_17 ..) hF); revert hF; (refine Lp.loop Ef3_17 (_, _, _, _) rfl ⟨_, rfl, rfl, rfl, rfl⟩ (pr2 (by first | exact rfl | ((try dsimp only [Lf3_17]); first | assumption | omega | (simp only [List.length_set]; done))) (pr2 (by first | exact rfl | ((try dsimp only [Lf3_17]); first | assumption | omega | (simp only [List.length_set]; done))) (pr2 (by first | exact rfl | ((try dsimp only [Lf3_17]); first | assumption | omega | (simp only [List.length_set]; done))) (by first | exact rfl | ((try dsimp only [Lf3_17]); first | assumption | omega | (simp only [List.length_set]; done)))))) (fun _ => rfl) ?_); rintro n ⟨v17, v18, v19, v20⟩ hF; dsimp only [Lf3_17, f3_17] at hF; unfold f3_17b at hF)
    | ((with_reducible refine back_id ?_); (with_reducible replace hF := chkE (e := f3_17 ..) hF); exact Lp.back Ef3_17 hF (_, _, _, _) ⟨_, rfl, rfl, rfl, rfl⟩ (pr2 (by first | exact rfl | ((try dsimp only [Lf3_17]); first | assumption | omega | (simp only [List.length_set]; done))) (pr2 (by first | exact rfl | ((try dsimp only [Lf3_17]); first | assumption | omega | (simp only [List.length_set]; done))) (pr2 (by first | exact rfl | ((try dsimp only [Lf3_17]); first | assumption | omega | (simp only [List.length_set]; done))) (by first | exact rfl | ((try dsimp only [Lf3_17]); first | assumption | omega | (simp only [List.length_set]; done)))))))
    | ((with_reducible refine seq_id' ?_); (with_reducible replace hF := chkJ (f := f3_c14 _ _ _ _ _) hF); revert hF; (refine Lp.cut5 Lf3_c14 f3_c14 14 rfl rfl ?_ ?_); (intro hF); rotate_left; (rintro b302_1 hF; dsimp only [Lf3_c14] at hF; unfold f3_c14 at hF); rotate_right)
    | ((with_reducible refine head_id ?_); (with_reducible replace hF := chkE (e := f3_c14 ..) hF); exact Lp.head Ef3_c14 hF _ ⟨_, rfl, rfl, rfl, rfl⟩ (by first | exact rfl | ((try dsimp only [Lf3_c14]); first | assumption | omega | (simp only [List.length_set]; done))))
    | ((with_reducible refine seq_id' ?_); (with_reducible replace hF := chkJ (f := f3_c6 _ _ _ _ _ _) hF); revert hF; (refine Lp.cut6 Lf3_c6 f3_c6 6 rfl rfl ?_ ?_); (intro hF); rotate_left; (rintro b302_1' hF; dsimp only [Lf3_c6] at hF; unfold f3_c6 at hF); rotate_right)
    | ((with_reducible refine head_id ?_); (with_reducible replace hF := chkE (e := f3_c6 ..) hF); exact Lp.head Ef3_c6 hF _ ⟨_, rfl, rfl, rfl, rfl⟩ (by first | exact rfl | ((try dsimp only [Lf3_c6]); first | assumption | omega | (simp only [List.length_set]; done))))
    | ((with_reducible refine seq_id' ?_); (with_reducible replace hF := chkJ (f := f3_c13 _ _ _ _ _ _ _) hF); revert hF; (refine Lp.cut7 Lf3_c13 f3_c13 13 rfl rfl ?_ ?_); (intro hF); rotate_left; (rintro v15 hF; dsimp only [Lf3_c13] at hF; unfold f3_c13 at hF); rotate_right)
    | ((with_reducible refine head_id ?_); (with_reducible replace hF := chkE (e := f3_c13 ..) hF); exact Lp.head Ef3_c13 hF (_, _) ⟨_, rfl, rfl, rfl, rfl⟩ (pr2 (by first | exact rfl | ((try dsimp only [Lf3_c13]); first | assumption | omega | (simp only [List.length_set]; done))) (by first | exact rfl | ((try dsimp only [Lf3_c13]); first | assumption | omega | (simp only [List.length_set]; done)))))
    | ((with_reducible refine loop_id ?_); (with_reducible replace hF := chkE (e := f3_9 ..) hF); revert hF; (refine Lp.loop Ef3_9 (_, _) rfl ⟨_, rfl, rfl, rfl, rfl⟩ (pr2 (by first | exact rfl | ((try dsimp only [Lf3_9]); first | assumption | omega | (simp only [List.length_set]; done))) (by first | exact rfl | ((try dsimp only [Lf3_9]); first | assumption | omega | (simp only [List.length_set]; done)))) (fun _ => rfl) ?_); rintro n ⟨v15, v51⟩ hF; dsimp only [Lf3_9, f3_9] at hF; unfold f3_9b at hF)
    | ((with_reducible refine back_id ?_); (with_reducible replace hF := chkE (e := f3_9 ..) hF); exact Lp.back Ef3_9 hF (_, _) ⟨_, rfl, rfl, rfl, rfl⟩ (pr2 (by first | exact rfl | ((try dsimp only [Lf3_9]); first | assumption | omega | (simp only [List.length_set]; done))) (by first | exact rfl | ((try dsimp only [Lf3_9]); first | assumption | omega | (simp only [List.length_set]; done)))))
    | ((with_reducible refine loop_id ?_); (with_reducible replace hF := chkE (e := f3_5 ..) hF); revert hF; (refine Lp.loop Ef3_5 _ rfl ⟨_, rfl, rfl, rfl, rfl⟩ (by first | exact rfl | ((try dsimp only [Lf3_5]); first | assumption | omega | (simp only [List.length_set]; done))) (fun _ => rfl) ?_); rintro n ⟨v14, b302_1⟩ hF; dsimp only [Lf3_5, f3_5] at hF; unfold f3_5b at hF)
    | ((with_reducible refine back_id ?_); (with_reducible replace hF := chkE (e := f3_5 ..) hF); exact Lp.back Ef3_5 hF _ ⟨_, rfl, rfl, rfl, rfl⟩ (by first | exact rfl | ((try dsimp only [Lf3_5]); first | assumption | omega | (simp only [List.length_set]; done))))
    | (revert hF; (with_reducible refine G5.step ?hx ?_); (case hx => exact rfl); intro v hF; conv => whnf)
    | (revert hF; (with_reducible refine G6.lend ?hx ?_); (case hx => exact rfl); intro v hF; conv => whnf)
    | (revert hF; (with_reducible refine G7.lend ?hx ?_); (case hx => exact rfl); intro v hF; conv => whnf)
    | (revert hF; (with_reducible refine G8.lend ?hx ?_); (case hx => exact rfl); intro v hF; conv => whnf)
    | (revert hF; (with_reducible refine G9.lend ?hx ?_); (case hx => exact rfl); intro v hF; conv => whnf)
    | (revert hF; (with_reducible refine G10.step ?hx ?_); (case hx => exact rfl); intro v hF; conv => whnf)
    | (revert hF; (with_reducible refine G11.lend ?hx ?_); (case hx => exact rfl); intro v hF; conv => whnf)
    | (revert hF; (with_reducible refine G12.lend ?hx ?_); (case hx => exact rfl); intro v hF; conv => whnf)
    | (revert hF; (with_reducible refine idx1 ?hn ?_); (case hn => first | exact rfl | exact (List.length_map _) | assumption | omega | simp); intro x hx hF; conv => whnf)
    | ((with_reducible have hG := app_fact hF); clear hF; (first | ((refine app_row hG ?hn ?hs (fun q hF => ?_)); (case hn => first | exact rfl | assumption | omega); (case hs => exact rfl)) | ((refine app_nil (d := bN) hG ?hs (fun q hF => ?_)); (case hs => exact rfl)) | ((refine app_gen (d := bN) hG ?ho ?hn ?hs (fun q hF => ?_)); (case ho => exact rfl); (case hn => exact rfl); (case hs => exact rfl))| ((refine app_nil (d := iN) hG ?hs (fun q hF => ?_)); (case hs => exact rfl)) | ((refine app_gen (d := iN) hG ?ho ?hn ?hs (fun q hF => ?_)); (case ho => exact rfl); (case hn => exact rfl); (case hs => exact rfl))| ((refine app_nil (d := sl_iN) hG ?hs (fun q hF => ?_)); (case hs => exact rfl)) | ((refine app_gen (d := sl_iN) hG ?ho ?hn ?hs (fun q hF => ?_)); (case ho => exact rfl); (case hn => exact rfl); (case hs => exact rfl))); clear hG; conv => whnf)
    | ((refine row_all ?hn ?_); (case hn => first | exact rfl | (simp; done) | (simp; omega)); conv => whnf)
    | ((with_reducible refine le_step ?hn ?_); (case hn => first | exact rfl | assumption | omega); conv => whnf)
    | ((refine ⟨?hx, ?_⟩); (case hx => exact ⟨rfl, Nat.le_of_ble_eq_true rfl, rfl⟩); conv => whnf)
    | ((with_reducible refine ex_step ?_); conv => whnf)
    | ((with_reducible have hG := chk_fact hF); clear hF; (refine ⟨?hx, ?_⟩); (case hx => (first | exact of_decide_eq_true hG.1 | exact hG.1)); have hF := hG.2; clear hG; conv => whnf)
    | ((with_reducible refine both_T ?hx ?_); (case hx => first | exact rfl | assumption | exact notT (by assumption)); conv => whnf)
    | ((with_reducible refine both_F ?hx ?_); (case hx => first | exact rfl | assumption | exact notF (by assumption)); conv => whnf)
    | (revert hF; (with_reducible refine ite_step ?_ ?_) <;> (intro hc hF; conv => whnf))
    | ((with_reducible refine vc_condF ?hx ?_); (case hx => exact rfl))
    | (show retD _ _ _ _ _ _; conv => whnf)
    | ((refine ⟨?hx, trivial⟩); (case hx => (cases hF; exact rfl)))
    | ((refine ⟨?hx, ?_⟩); (case hx => decide); conv => whnf)
    | with_reducible refine k_seq ?_
    | (have hF : (none : Option _) = some _ := hF; cases hF))
end
end Go.Vc
namespace Go.Vc
set_option linter.unusedVariables false
set_option linter.unnecessarySimpa false
set_option linter.unusedSimpArgs false
section
variable {α β σ : Type}
theorem iffD {α : Type} {p q : Prop} {dp : Decidable p} {dq : Decidable q} {a b : α} (h : p ↔ q) : @ite α p dp a b = @ite α q dq a b := by
  by_cases hp : p
  · rw [if_pos hp, if_pos (h.1 hp)]
  · rw [if_neg hp, if_neg fun hq => hp (h.2 hq)]
open Classical in
theorem loop_ex {F : Nat → Int → Option β} {k0 e : Option β} {p : Nat → Prop} (len : Nat)
    (hs : ∀ n i, i < len → F (n + 1) (i : Int) = if p i then e else F n ((i + 1 : Nat) : Int)) (he : ∀ n, F (n + 1) (len : Int) = k0) :
    ∀ n i, i ≤ len → len - i < n → F n (i : Int) = if (∃ j, i ≤ j ∧ j < len ∧ p j) then e else k0 := by
  intro n
  induction n with
  | zero => intro i _ h; omega
  | succ n ih =>
    intro i hi hn
    by_cases h : i = len
    · subst h
      rw [he, if_neg]
      rintro ⟨j, h1, h2, _⟩; omega
    · rw [hs n i (by omega)]
      by_cases hp : p i
      · rw [if_pos hp, if_pos ⟨i, Nat.le_refl _, by omega, hp⟩]
      · rw [if_neg hp, ih (i + 1) (by omega) (by omega)]
        by_cases hx : ∃ j, i + 1 ≤ j ∧ j < len ∧ p j
        · obtain ⟨j, h1, h2, h3⟩ := hx
          rw [if_pos ⟨j, h1, h2, h3⟩, if_pos ⟨j, by omega, h2, h3⟩]
        · rw [if_neg hx, if_neg]
          rintro ⟨j, h1, h2, h3⟩
          by_cases hj : j = i
          · subst hj; exact hp h3
          · exact hx ⟨j, by omega, h2, h3⟩
open Classical in
theorem loop_ex0 {F : Nat → Int → Option β} {k0 e : Option β} {p : Nat → Prop} (len : Nat)
    (hs : ∀ n i, i < len → F (n + 1) (i : Int) = if p i then e else F n ((i + 1 : Nat) : Int)) (he : ∀ n, F (n + 1) (len : Int) = k0) {n : Nat} (hn : len < n) :
    F n 0 = if (∃ j, j < len ∧ p j) then e else k0 := by
  have := loop_ex len hs he n 0 (by omega) (by omega)
  rw [show ((0 : Nat) : Int) = 0 from rfl] at this
  rw [this]
  by_cases h : ∃ j, j < len ∧ p j
  · obtain ⟨j, h1, h2⟩ := h
    rw [if_pos ⟨j, by omega, h1, h2⟩, if_pos ⟨j, h1, h2⟩]
  · rw [if_neg h, if_neg]
    rintro ⟨j, _, h1, h2⟩; exact h ⟨j, h1, h2⟩
theorem loop_inv {F : Nat → σ → Int → Option β} {k : σ → Option β} (g : σ → Nat → σ) (Inv : Nat → σ → Prop) (len : Nat)
    (hs : ∀ n s i, i < len → Inv i s → F (n + 1) s (i : Int) = F n (g s i) ((i + 1 : Nat) : Int)) (hi : ∀ s i, i < len → Inv i s → Inv (i + 1) (g s i)) (he : ∀ n s, F (n + 1) s (len : Int) = k s) :
    ∀ n i s, i ≤ len → len - i < n → Inv i s → F n s (i : Int) = k ((List.range' i (len - i)).foldl g s) ∧ Inv len ((List.range' i (len - i)).foldl g s) := by
  intro n
  induction n with
  | zero => intro i s _ h; omega
  | succ n ih =>
    intro i s hl hn h0
    by_cases h : i = len
    · subst h
      rw [he, Nat.sub_self]; exact ⟨rfl, h0⟩
    · rw [hs n s i (by omega) h0]
      obtain ⟨h1, h2⟩ := ih (i + 1) (g s i) (by omega) (by omega) (hi s i (by omega) h0)
      rw [show len - i = (len - (i + 1)) + 1 by omega, List.range'_succ]
      exact ⟨h1, h2⟩
theorem loop_inv0 {F : Nat → σ → Int → Option β} {k : σ → Option β} (g : σ → Nat → σ) (Inv : Nat → σ → Prop) (len : Nat)
    (hs : ∀ n s i, i < len → Inv i s → F (n + 1) s (i : Int) = F n (g s i) ((i + 1 : Nat) : Int)) (hi : ∀ s i, i < len → Inv i s → Inv (i + 1) (g s i)) (he : ∀ n s, F (n + 1) s (len : Int) = k s)
    {n : Nat} {s : σ} (hn : len < n) (h0 : Inv 0 s) : F n s 0 = k ((List.range len).foldl g s) ∧ Inv len ((List.range len).foldl g s) := by
  have := loop_inv g Inv len hs hi he n 0 s (by omega) (by omega) h0
  rw [List.range_eq_range']
  simpa using this
theorem loop_find {F : Nat → Int → Option β} {k : Nat → Option β} {p : Nat → Prop} (m : Nat) (hm : p m)
    (hs : ∀ n i, i ≤ m → ¬ p i → F (n + 1) (i : Int) = F n ((i + 1 : Nat) : Int)) (he : ∀ n i, i ≤ m → p i → F (n + 1) (i : Int) = k i) :
    ∀ n i, i ≤ m → m - i < n → ∃ j, i ≤ j ∧ j ≤ m ∧ p j ∧ (∀ q, i ≤ q → q < j → ¬ p q) ∧ F n (i : Int) = k j := by
  intro n
  induction n with
  | zero => intro i _ h; omega
  | succ n ih =>
    intro i hi hn
    by_cases h : p i
    · exact ⟨i, Nat.le_refl _, hi, h, fun q h1 h2 => by omega, he n i hi h⟩
    · have : i ≠ m := fun hh => h (hh ▸ hm)
      obtain ⟨j, h1, h2, h3, h4, h5⟩ := ih (i + 1) (by omega) (by omega)
      refine ⟨j, by omega, h2, h3, fun q h6 h7 => ?_, (hs n i hi h).trans h5⟩
      by_cases hq : q = i
      · subst hq; exact h
      · exact h4 q (by omega) h7
end
end Go.Vc
namespace Go.Vc
set_option linter.unusedVariables false
set_option linter.unnecessarySimpa false
set_option linter.unusedSimpArgs false
set_option linter.unusedSimpArgs false
theorem f44_eq {N : Nat} {a b c : Int} : f44 N a b c = some (decide (a ≤ b ∧ b ≤ c)) := by
  unfold f44
  by_cases h : a ≤ b <;> simp [h]
open Classical in
def Small (t : List (List Int)) : Prop := t.length ≤ 20 ∧ ∀ r, r ∈ t → r.length ≤ 20
def row (t : List (List Int)) (i : Nat) : List Int := t.getD i []
def en (t : List (List Int)) (i j : Nat) : Int := (row t i).getD j 0
theorem row_get {t : List (List Int)} {i : Nat} (h : i < t.length) : t[i]? = some (row t i) := by
  simp [row, h]
theorem row_mem {t : List (List Int)} {i : Nat} (h : i < t.length) : row t i ∈ t := by
  simp [row, h]
theorem ix_row {t : List (List Int)} {i : Nat} (h : i < t.length) : ix t (i : Int) = some (row t i) := by rw [ix_nat, row_get h]
theorem ix_en {t : List (List Int)} {i j : Nat} (h : j < (row t i).length) : ix (row t i) (j : Int) = some (en t i j) := by
  rw [ix_nat]; simp [en, h]
open Classical in
noncomputable def chkT (t : List (List Int)) : Int :=
  if ¬ (2 ≤ t.length ∧ t.length ≤ 10) then 3
  else if ∃ i, i < t.length ∧ (row t i).length ≠ t.length then 3
  else if ∃ i, i < t.length ∧ ∃ j, j < t.length ∧ ¬ (0 ≤ en t i j ∧ en t i j < t.length) then 4
  else if ∃ i, i < t.length ∧ ∃ j, j < t.length ∧ ∃ k, k < j ∧ (en t i j = en t i k ∨ en t j i = en t k i) then 6
  else 0
theorem W_sub1 {n : Nat} (h : n ≤ 1000000) : W ((n : Int) - (1 : Int)) = (n : Int) - 1 := W_of (by omega) (by omega)
theorem take_flat {t : List (List Int)} {i : Nat} (h : i < t.length) : (t.take (i + 1)).flatten = (t.take i).flatten ++ row t i := by
  rw [List.take_add_one, row_get h]; simp
theorem row_le {t : List (List Int)} {m i : Nat} (hr : ∀ r, r ∈ t → r.length ≤ m) (h : i < t.length) : (row t i).length ≤ m := hr _ (row_mem h)
theorem f35_eq {N : Nat} {t : List (List Int)} (hs : Small t) (hN : 30 ≤ N) : f35 N t = some t.flatten := by
  obtain ⟨hs, hr⟩ := hs
  unfold f35
  simp only [joinK]
  obtain ⟨h1, h2⟩ := loop_inv0 (F := f35_3 t (f35_c9 t N)) (k := f35_c9 t N) (fun (s : Int) i => s + ((row t i).length : Int)) (fun i s => 0 ≤ s ∧ s ≤ 20 * i) t.length (by
      intro n s i hi h
      conv => lhs; unfold f35_3 f35_3b
      have := row_le hr hi
      have hw : W (s + ((row t i).length : Int)) = s + ((row t i).length : Int) := W_of (by omega) (by omega)
      simp only [show (i : Int) < (t.length : Int) by omega, decide_true, cond_true, ix_row hi, Option.bind_some, hw, show ¬ s + ((row t i).length : Int) < 0 by omega, decide_false, cond_false]
      rw [W_nat (by omega)]) (by
      intro s i hi h
      have := row_le hr hi
      omega) (by intro n s; (conv => lhs; unfold f35_3 f35_3b); simp) (n := N) (s := 0) (by omega) ⟨by omega, by omega⟩
  rw [h1]
  generalize (List.range t.length).foldl (fun (s : Int) i => s + ((row t i).length : Int)) 0 = z at h2
  have hk : f35_c10 t N [] = some t.flatten := by
    unfold f35_c10
    simp only [joinK]
    obtain ⟨h3, h4⟩ := loop_inv0 (F := f35_11 t f35_c15) (k := f35_c15) (fun (s : List Int) i => s ++ row t i) (fun i s => s = (t.take i).flatten ∧ s.length ≤ 20 * i) t.length (by
      intro n s i hi h
      conv => lhs; unfold f35_11 f35_11b
      have := row_le hr hi
      simp only [show (i : Int) < (t.length : Int) by omega, decide_true, cond_true, ix_row hi, Option.bind_some]
      rw [app_ok (by omega) (by omega)]
      simp only [Option.bind_some]
      rw [W_nat (by omega)]) (by
      intro s i hi h
      have := row_le hr hi
      exact ⟨by rw [h.1, take_flat hi], by simp; omega⟩) (by intro n s; (conv => lhs; unfold f35_11 f35_11b); simp) (n := N) (s := []) (by omega) ⟨by simp, by simp⟩
    rw [h3, h4.1, List.take_length]; rfl
  unfold f35_c9
  simp only [joinK]
  rw [show decide (z < 0) = false by simp; omega]
  simp only [cond_false]
  rw [show W (z - W (0 - 0)) = z by
    rw [show W ((0 : Int) - 0) = 0 from rfl, Int.sub_zero]; exact W_of (by omega) (by omega)]
  by_cases h0 : 0 < z
  · simp only [h0, decide_true, cond_true]
    unfold mkA
    rw [if_pos ⟨by omega, by omega⟩]
    simp only [Option.bind_some]
    rw [show subR (List.replicate z.toNat (0 : Int)) 0 0 = some [] by
      unfold subR sub
      rw [if_pos ⟨by omega, by omega, by omega⟩]; simp]
    exact hk
  · simp only [h0, decide_false, cond_false]
    exact hk
open Classical in
def Seen (b : List Bool) (f : Nat → Int) (i : Nat) : Prop := b.length = 10 ∧ ∀ x : Nat, x < 10 → (b[x]? = some true ↔ ∃ j, j < i ∧ f j = (x : Int)) 
theorem Seen.zero {f : Nat → Int} : Seen (List.replicate 10 false) f 0 :=
  ⟨by simp, fun x hx => by rw [List.getElem?_replicate, if_pos hx]; exact ⟨fun h => (by cases h), fun ⟨j, h, _⟩ => by omega⟩⟩
theorem Seen.get {b : List Bool} {f : Nat → Int} {i : Nat} (h : Seen b f i) {x : Int} (h0 : 0 ≤ x) (h1 : x < 10) : ∃ v, ixN b x.toNat = some v ∧ (v = true ↔ ∃ j, j < i ∧ f j = x) := by
  obtain ⟨hl, hb⟩ := h
  refine ⟨b[x.toNat]'(by omega), by simp [ixN, show x.toNat < b.length by omega], ?_⟩
  have := hb x.toNat (by omega)
  rw [List.getElem?_eq_getElem (by omega)] at this
  rw [show ((x.toNat : Nat) : Int) = x by omega] at this
  rw [← this]; simp
theorem Seen.set {b : List Bool} {f : Nat → Int} {i : Nat} (h : Seen b f i) {x : Int} (h0 : 0 ≤ x) (h1 : x < 10) (hx : f i = x) : ∃ b', setN b x.toNat true = some b' ∧ Seen b' f (i + 1) := by
  obtain ⟨hl, hb⟩ := h
  refine ⟨b.set x.toNat true, by simp [setN, show x.toNat < b.length by omega], by simp [hl], fun y hy => ?_⟩
  rw [List.getElem?_set]
  by_cases e : x.toNat = y
  · rw [if_pos e, if_pos (by omega)]
    exact ⟨fun _ => ⟨i, by omega, by omega⟩, fun _ => rfl⟩
  · rw [if_neg e, hb y hy]
    constructor
    · rintro ⟨j, h2, h3⟩; exact ⟨j, by omega, h3⟩
    · rintro ⟨j, h2, h3⟩
      by_cases hj : j = i
      · subst hj; omega
      · exact ⟨j, by omega, h3⟩
structure Sq (t : List (List Int)) : Prop where
  hi : t.length ≤ 10
  len : ∀ i, i < t.length → (row t i).length = t.length
  lo : ∀ i j, i < t.length → j < t.length → 0 ≤ en t i j ∧ en t i j < t.length
theorem chkI_ok {n : Nat} {x : Int} (h : 0 ≤ x) (h' : x < n) : chkI n x = some () := by simp [chkI, h, h']
theorem Sq.ix {t : List (List Int)} (h : Sq t) {i j : Nat} (hi : i < t.length) (hj : j < t.length) : Vc.ix (row t i) (j : Int) = some (en t i j) := ix_en (by rw [h.len i hi]; exact hj)
open Classical in
theorem f60_in {N : Nat} {t : List (List Int)} (hq : Sq t) {k0 k1 : Bool → Option Bool} {v : Nat} (hv : v < t.length) : ∀ n i a b, i ≤ t.length → t.length - i < n → Seen a (en t v) i → Seen b (fun j => en t j v) i →
    f60_7 t k0 (v : Int) k1 n false (i : Int) a b = if ∃ j, i ≤ j ∧ j < t.length ∧ ∃ k, k < j ∧ (en t v j = en t v k ∨ en t j v = en t k v) then k0 true else k1 false := by
  intro n
  induction n with
  | zero => intro i a b _ h; omega
  | succ n ih =>
    intro i a b hi hn ha hb
    have hlen := hq.hi
    conv => lhs; unfold f60_7 f60_7b
    by_cases h : i = t.length
    · subst h
      simp only [Int.lt_irrefl, decide_false, cond_false]
      rw [if_neg]
      rintro ⟨j, h1, h2, _⟩; omega
    · have hi : i < t.length := by omega
      have hn1 : t.length - (i + 1) < n := by omega
      have hw : W ((i : Int) + 1) = ((i + 1 : Nat) : Int) := W_nat (by omega)
      have r1 := hq.lo v i hv hi
      have r2 := hq.lo i v hi hv
      simp only [show (i : Int) < (t.length : Int) by omega, decide_true, cond_true, ix_row hv, ix_row hi, Option.bind_some, hq.ix hv hi, hq.ix hi hv, chkI_ok (n := 10) r1.1 (by omega), chkI_ok (n := 10) r2.1 (by omega)]
      obtain ⟨x, hx, hx2⟩ := ha.get r1.1 (by omega)
      obtain ⟨y, hy, hy2⟩ := hb.get r2.1 (by omega)
      rw [hx, hy]
      simp only [Option.bind_some]
      cases x with
      | true =>
        obtain ⟨k, h1, h2⟩ := hx2.1 rfl
        simp only [cond_true]
        rw [if_pos ⟨i, Nat.le_refl _, hi, k, h1, .inl h2.symm⟩]
      | false =>
        simp only [cond_false]
        cases y with
        | true =>
          obtain ⟨k, h1, h2⟩ := hy2.1 rfl
          simp only [cond_true]
          rw [if_pos ⟨i, Nat.le_refl _, hi, k, h1, .inr h2.symm⟩]
        | false =>
          simp only [cond_false]
          obtain ⟨a', ha1, ha2⟩ := ha.set r1.1 (by omega) rfl
          obtain ⟨b', hb1, hb2⟩ := hb.set r2.1 (by omega) rfl
          rw [ha1]
          simp only [Option.bind_some]
          rw [hb1]
          simp only [Option.bind_some]
          rw [hw, ih (i + 1) a' b' hi hn1 ha2 hb2]
          refine iffD ?_
          constructor
          · rintro ⟨j, h1, h2⟩; exact ⟨j, by omega, h2⟩
          · rintro ⟨j, h1, h2, k, h3, h4⟩
            by_cases hj : j = i
            · subst hj
              rcases h4 with h4 | h4
              · exact absurd (hx2.2 ⟨k, h3, h4.symm⟩) (by simp)
              · exact absurd (hy2.2 ⟨k, h3, h4.symm⟩) (by simp)
            · exact ⟨j, by omega, h2, k, h3, h4⟩
def Twice (t : List (List Int)) : Prop := ∃ i, i < t.length ∧ ∃ j, j < t.length ∧ ∃ k, k < j ∧ (en t i j = en t i k ∨ en t j i = en t k i)
open Classical in
theorem f60_eq {N : Nat} {t : List (List Int)} (hq : Sq t) (hN : 30 ≤ N) : ∃ b, f60 N t = some b ∧ (b = true ↔ Twice t) := by
  unfold f60
  have hlen := hq.hi
  simp only [joinK]
  rw [loop_ex0 (F := fun n i => f60_3 t N f60_c15 n false i) (e := some true) (k0 := some false) (p := fun i => ∃ j, j < t.length ∧ ∃ k, k < j ∧ (en t i j = en t i k ∨ en t j i = en t k i)) t.length]
  · unfold Twice
    by_cases h : ∃ i, i < t.length ∧ ∃ j, j < t.length ∧ ∃ k, k < j ∧ (en t i j = en t i k ∨ en t j i = en t k i)
    · exact ⟨true, by rw [if_pos h], by simp [h]⟩
    · exact ⟨false, by rw [if_neg h], by simp [h]⟩
  · intro n i hi
    show f60_3 t N f60_c15 (n + 1) false (i : Int) = _
    conv => lhs; unfold f60_3 f60_3b
    simp only [show (i : Int) < (t.length : Int) by omega, decide_true, cond_true, joinK]
    rw [show (0 : Int) = ((0 : Nat) : Int) from rfl, f60_in (N := N) hq hi N 0 _ _ (by omega) (by omega) Seen.zero Seen.zero]
    unfold f60_c14 f60_c15
    rw [W_nat (by omega)]
    refine iffD ⟨?_, ?_⟩
    · rintro ⟨j, _, h2⟩; exact ⟨j, h2⟩
    · rintro ⟨j, h2⟩; exact ⟨j, by omega, h2⟩
  · intro n
    show f60_3 t N f60_c15 (n + 1) false _ = _
    conv => lhs; unfold f60_3 f60_3b
    simp [f60_c15]
  · omega
theorem flat_ex {t : List (List Int)} (hlen : ∀ i, i < t.length → (row t i).length = t.length) {p : Int → Prop} : (∃ v, v < t.flatten.length ∧ p (t.flatten.getD v 0)) ↔ ∃ i, i < t.length ∧ ∃ j, j < t.length ∧ p (en t i j) := by
  constructor
  · rintro ⟨v, hv, hp⟩
    have hm : t.flatten.getD v 0 ∈ t.flatten := by
      rw [List.getD_eq_getElem?_getD, List.getElem?_eq_getElem hv]; exact List.getElem_mem hv
    obtain ⟨r, hr, hx⟩ := List.mem_flatten.1 hm
    obtain ⟨i, hi⟩ := List.mem_iff_getElem?.1 hr
    obtain ⟨j, hj⟩ := List.mem_iff_getElem?.1 hx
    have hi' := (List.getElem?_eq_some_iff.1 hi).1
    have hj' := (List.getElem?_eq_some_iff.1 hj).1
    have e1 : row t i = r := by rw [row_get hi'] at hi; exact Option.some.inj hi
    refine ⟨i, hi', j, by rw [← hlen i hi', e1]; exact hj', ?_⟩
    have : en t i j = t.flatten.getD v 0 := by unfold en; rw [e1, List.getD_eq_getElem?_getD, hj]; rfl
    rw [this]; exact hp
  · rintro ⟨i, hi, j, hj, hp⟩
    have hm : en t i j ∈ t.flatten := List.mem_flatten.2 ⟨row t i, row_mem hi, by
      unfold en
      have : j < (row t i).length := by rw [hlen i hi]; exact hj
      simp [this]⟩
    obtain ⟨v, hv⟩ := List.mem_iff_getElem?.1 hm
    exact ⟨v, (List.getElem?_eq_some_iff.1 hv).1, by rw [List.getD_eq_getElem?_getD, hv]; exact hp⟩
open Classical in
theorem f42_eq {N : Nat} {t : List (List Int)} (hs : Small t) (hN : 500 ≤ N) : f42 N t = some (chkT t) := by
  have hs0 := hs
  obtain ⟨hs, hr⟩ := hs
  unfold f42 chkT
  rw [f44_eq]
  simp only [Option.bind_some]
  by_cases h1 : 2 ≤ t.length ∧ t.length ≤ 10
  · rw [if_neg (by simp [h1]), show decide ((2 : Int) ≤ (t.length : Int) ∧ (t.length : Int) ≤ 10) = true by simp; omega]
    simp only [Bool.not_true, cond_false, joinK]
    rw [loop_ex0 (F := f42_i206_i207000102_2 t N (f42_i206_i207000102_c7 t N)) (e := some 3) (k0 := f42_i206_i207000102_c7 t N) (p := fun i => (row t i).length ≠ t.length) t.length]
    · by_cases h2 : ∃ i, i < t.length ∧ (row t i).length ≠ t.length
      · rw [if_pos h2, if_pos h2]
      · rw [if_neg h2, if_neg h2]
        have hl : ∀ i, i < t.length → (row t i).length = t.length := fun i hi => by
          by_cases hh : (row t i).length = t.length
          · exact hh
          · exact absurd ⟨i, hi, hh⟩ h2
        have hfl : t.flatten.length ≤ 400 := by
          have : ∀ (l : List (List Int)), (∀ r, r ∈ l → r.length ≤ 20) → l.flatten.length ≤ 20 * l.length := by
            intro l
            induction l with
            | nil => intro _; simp
            | cons x l ih =>
              intro h
              have := ih fun r hr => h r (by simp [hr])
              have := h x (by simp)
              simp only [List.flatten_cons, List.length_append, List.length_cons]; omega
          have := this t hr; omega
        unfold f42_i206_i207000102_c7
        rw [f35_eq hs0 (by omega)]
        simp only [Option.bind_some, joinK]
        rw [loop_ex0 (F := f42_i403_i404000102_2 t N t.flatten (f42_i403_i404000102_c7 t N)) (e := some 4) (k0 := f42_i403_i404000102_c7 t N) (p := fun v => ¬ (0 ≤ t.flatten.getD v 0 ∧ t.flatten.getD v 0 < t.length)) t.flatten.length]
        · by_cases h3 : ∃ i, i < t.length ∧ ∃ j, j < t.length ∧ ¬ (0 ≤ en t i j ∧ en t i j < t.length)
          · rw [if_pos h3, if_pos ((flat_ex hl (p := fun x => ¬ (0 ≤ x ∧ x < t.length))).2 h3)]
          · rw [if_neg h3, if_neg (fun hh => h3 ((flat_ex hl (p := fun x => ¬ (0 ≤ x ∧ x < t.length))).1 hh))]
            unfold f42_i403_i404000102_c7
            have hq : Sq t := ⟨h1.2, hl, fun i j hi hj => by
              by_cases hh : 0 ≤ en t i j ∧ en t i j < t.length
              · exact hh
              · exact absurd ⟨i, hi, j, hj, hh⟩ h3⟩
            obtain ⟨b, hb, hb2⟩ := f60_eq (N := N) hq (by omega)
            rw [hb]
            simp only [Option.bind_some]
            unfold Twice at hb2
            cases b with
            | true => rw [if_pos (hb2.1 rfl)]; rfl
            | false => rw [if_neg (fun hh => absurd (hb2.2 hh) (by simp))]; rfl
        · intro n v hv
          conv => lhs; unfold f42_i403_i404000102_2 f42_i403_i404000102_2b
          have hg : ix t.flatten (v : Int) = some (t.flatten.getD v 0) := by rw [ix_nat, List.getD_eq_getElem?_getD, List.getElem?_eq_getElem hv]; rfl
          simp only [show (v : Int) < (t.flatten.length : Int) by omega, decide_true, cond_true, hg, Option.bind_some, f44_eq, W_sub1 (show t.length ≤ 1000000 by omega), show (0 : Int) ≤ (v : Int) by omega]
          rw [W_nat (by omega)]
          by_cases e1 : 0 ≤ t.flatten.getD v 0 ∧ t.flatten.getD v 0 < t.length
          · rw [if_neg (by simpa using e1), show decide (0 ≤ t.flatten.getD v 0 ∧ t.flatten.getD v 0 ≤ (t.length : Int) - 1) = true by simp only [decide_eq_true_eq]; omega]; rfl
          · rw [if_pos e1, show decide (0 ≤ t.flatten.getD v 0 ∧ t.flatten.getD v 0 ≤ (t.length : Int) - 1) = false by simp only [decide_eq_false_iff_not]; omega]; rfl
        · intro n; (conv => lhs; unfold f42_i403_i404000102_2 f42_i403_i404000102_2b); simp
        · omega
    · intro n i hi
      conv => lhs; unfold f42_i206_i207000102_2 f42_i206_i207000102_2b
      simp only [show (i : Int) < (t.length : Int) by omega, decide_true, cond_true, ix_row (show i < t.length from hi), Option.bind_some, show (0 : Int) ≤ (i : Int) by omega]
      rw [W_nat (by omega)]
      by_cases e1 : (row t i).length = t.length
      · simp [e1]
      · simp [e1, show ¬ ((row t i).length : Int) = (t.length : Int) by omega]
    · intro n; (conv => lhs; unfold f42_i206_i207000102_2 f42_i206_i207000102_2b); simp
    · omega
  · rw [if_pos (by simpa using h1), show decide ((2 : Int) ≤ (t.length : Int) ∧ (t.length : Int) ≤ 10) = false by simp; omega]
    rfl
structure Lat (t : List (List Int)) : Prop extends Sq t where
  two : 2 ≤ t.length
  once : ¬ Twice t
open Classical in
theorem chkT_good {t : List (List Int)} : chkT t = 0 ↔ Lat t := by
  unfold chkT
  constructor
  · intro h
    split at h
    · exact absurd h (by decide)
    · rename_i h1
      split at h
      · exact absurd h (by decide)
      · rename_i h2
        split at h
        · exact absurd h (by decide)
        · rename_i h3
          split at h
          · exact absurd h (by decide)
          · rename_i h4
            refine ⟨⟨by omega, fun i hi => ?_, fun i j hi hj => ?_⟩, by omega, h4⟩
            · by_cases hh : (row t i).length = t.length
              · exact hh
              · exact absurd ⟨i, hi, hh⟩ h2
            · by_cases hh : 0 ≤ en t i j ∧ en t i j < t.length
              · exact hh
              · exact absurd ⟨i, hi, j, hj, hh⟩ h3
  · intro h
    rw [if_neg (fun hn => hn ⟨h.two, h.hi⟩), if_neg (by rintro ⟨i, hi, hh⟩; exact hh (h.len i hi)), if_neg (by rintro ⟨i, hi, j, hj, hh⟩; exact hh (h.lo i j hi hj))]
    exact if_neg h.once
theorem pig : ∀ (n : Nat) (f : Nat → Nat), (∀ i, i < n → f i < n) → (∀ i j, i < n → j < n → f i = f j → i = j) → ∀ y, y < n → ∃ i, i < n ∧ f i = y := by
  intro n
  induction n with
  | zero => intro f _ _ y h; omega
  | succ m ih =>
    intro f h hi y hy
    have hz := h m (by omega)
    have hg := ih (fun i => if f i = m then f m else f i) (by
      intro i him
      have h1 := h i (by omega)
      by_cases e : f i = m
      · have : f m ≠ m := fun hh => by have := hi i m (by omega) (by omega) (e.trans hh.symm); omega
        simp only [e, if_true]; omega
      · simp only [e, if_false]; omega) (by
      intro i j him hjm hh
      by_cases e : f i = m
      · by_cases e2 : f j = m
        · exact hi i j (by omega) (by omega) (e.trans e2.symm)
        · simp only [e, e2, if_true, if_false] at hh
          have := hi m j (by omega) (by omega) hh; omega
      · by_cases e2 : f j = m
        · simp only [e, e2, if_true, if_false] at hh
          have := hi i m (by omega) (by omega) hh; omega
        · simp only [e, e2, if_false] at hh
          exact hi i j (by omega) (by omega) hh)
    by_cases e : y = f m
    · exact ⟨m, by omega, e.symm⟩
    · by_cases e2 : y < m
      · obtain ⟨i, h1, h2⟩ := hg y e2
        refine ⟨i, by omega, ?_⟩
        by_cases e3 : f i = m
        · simp only [e3, if_true] at h2; omega
        · simpa only [e3, if_false] using h2
      · obtain ⟨i, h1, h2⟩ := hg (f m) (by omega)
        refine ⟨i, by omega, ?_⟩
        by_cases e3 : f i = m
        · omega
        · simp only [e3, if_false] at h2
          have := hi i m (by omega) (by omega) h2; omega
def dl (t : List (List Int)) (s : Nat) (l : List Int) : Nat := l.foldl (fun s d => (en t s d.toNat).toNat) s
def Dig (t : List (List Int)) (l : List Int) : Prop := ∀ x, x ∈ l → 0 ≤ x ∧ x < t.length
theorem dl_nil {t : List (List Int)} {s : Nat} : dl t s [] = s := rfl
theorem dl_cons {t : List (List Int)} {s : Nat} {d : Int} {l : List Int} : dl t s (d :: l) = dl t (en t s d.toNat).toNat l := rfl
theorem dl_append {t : List (List Int)} {s : Nat} {a b : List Int} : dl t s (a ++ b) = dl t (dl t s a) b := by simp [dl]
theorem Dig.cons {t : List (List Int)} {d : Int} {l : List Int} (h : Dig t (d :: l)) : (0 ≤ d ∧ d < t.length) ∧ Dig t l := ⟨h d (by simp), fun x hx => h x (by simp [hx])⟩
theorem Dig.append {t : List (List Int)} {a b : List Int} : Dig t (a ++ b) ↔ Dig t a ∧ Dig t b := by
  constructor
  · intro h; exact ⟨fun x hx => h x (by simp [hx]), fun x hx => h x (by simp [hx])⟩
  · rintro ⟨h1, h2⟩ x hx
    rcases List.mem_append.1 hx with hx | hx
    · exact h1 x hx
    · exact h2 x hx
theorem Sq.step {t : List (List Int)} (h : Sq t) {s : Nat} {d : Int} (hs : s < t.length) (hd : 0 ≤ d ∧ d < t.length) : (en t s d.toNat).toNat < t.length ∧ Vc.ix (row t s) d = some (((en t s d.toNat).toNat : Nat) : Int) := by
  have := h.lo s d.toNat hs (by omega)
  refine ⟨by omega, ?_⟩
  have h2 := h.ix hs (show d.toNat < t.length by omega)
  rw [show ((d.toNat : Nat) : Int) = d by omega] at h2
  rw [h2]; congr 1; omega
theorem dl_lt {t : List (List Int)} (h : Sq t) : ∀ {l : List Int} {s : Nat}, s < t.length → Dig t l → dl t s l < t.length
  | [], s, hs, _ => hs
  | d :: l, s, hs, hd => by rw [dl_cons]; exact dl_lt h (h.step hs hd.cons.1).1 hd.cons.2
theorem f21_loop {t : List (List Int)} (h : Sq t) {l : List Int} {k0 : Int → Option Int} (hl : l.length ≤ 1000000) (hd : Dig t l) : ∀ n (i s : Nat), i ≤ l.length → l.length - i < n → s < t.length → f21_i103_2 t l k0 n (s : Int) (i : Int) = k0 ((dl t s (l.drop i) : Nat) : Int) := by
  intro n
  induction n with
  | zero => intro i s _ h; omega
  | succ n ih =>
    intro i s hi hn hs
    conv => lhs; unfold f21_i103_2 f21_i103_2b
    by_cases e : i = l.length
    · subst e; simp [dl_nil]
    · have hi : i < l.length := by omega
      have hx : 0 ≤ l[i] ∧ l[i] < t.length := hd _ (List.getElem_mem hi)
      obtain ⟨h1, h2⟩ := h.step hs hx
      simp only [show (i : Int) < (l.length : Int) by omega, decide_true, cond_true, ix_get hi, Option.bind_some, ix_row hs, h2]
      rw [W_nat (by omega), ih (i + 1) _ hi (by omega) h1, List.drop_eq_getElem_cons hi, dl_cons]
theorem f21_eq {N : Nat} {t : List (List Int)} (h : Sq t) {l : List Int} {s : Nat} (hd : Dig t l) (hs : s < t.length) (hl : l.length ≤ 50) (hN : 100 ≤ N) : f21 N t (s : Int) l = some ((dl t s l : Nat) : Int) := by
  unfold f21
  simp only [joinK]
  have := f21_loop h (k0 := f21_i103_c6 t) (by omega) hd N 0 s (by omega) (by omega) hs
  rw [show ((0 : Nat) : Int) = 0 from rfl] at this
  rw [this]; rfl
open Classical in
noncomputable def digT (t : List (List Int)) (l : List Int) : Int :=
  if chkT t ≠ 0 then chkT t else if 12 < l.length then 2 else if ∃ i, i < l.length ∧ ¬ (0 ≤ l.getD i 0 ∧ l.getD i 0 < t.length) then 4 else 0
theorem dig_iff {t : List (List Int)} {l : List Int} : Dig t l ↔ ¬ ∃ i, i < l.length ∧ ¬ (0 ≤ l.getD i 0 ∧ l.getD i 0 < t.length) := by
  constructor
  · rintro h ⟨i, hi, hn⟩
    exact hn (h _ (by simp [hi]))
  · intro h x hx
    obtain ⟨i, hi⟩ := List.mem_iff_getElem?.1 hx
    have := (List.getElem?_eq_some_iff.1 hi).1
    by_cases hh : 0 ≤ x ∧ x < t.length
    · exact hh
    · exact absurd ⟨i, this, by simpa [hi] using hh⟩ h
theorem ix_getD {l : List Int} {i : Nat} (h : i < l.length) : ix l (i : Int) = some (l.getD i 0) := by simp [ix_nat, h]
open Classical in
theorem f20_eq {N : Nat} {t : List (List Int)} {l : List Int} (hs : Small t) (hl : l.length ≤ 50) (hN : 500 ≤ N) : f20 N t l = some (digT t l) := by
  unfold f20 digT
  rw [f42_eq hs hN]
  simp only [Option.bind_some]
  by_cases h1 : chkT t = 0
  · rw [if_neg (by simp [h1])]
    simp only [h1, not_true_eq_false, decide_false, cond_false]
    by_cases h2 : 12 < l.length
    · rw [if_pos h2]; simp [show (12 : Int) < (l.length : Int) by omega]
    · rw [if_neg h2]
      simp only [show ¬ (12 : Int) < (l.length : Int) by omega, decide_false, cond_false, joinK]
      have := hs.1
      rw [loop_ex0 (F := f20_i602_i603000102_2 t l N (f20_i602_i603000102_c7 t)) (e := some 4) (k0 := some 0) (p := fun i => ¬ (0 ≤ l.getD i 0 ∧ l.getD i 0 < t.length)) l.length]
      · split <;> rfl
      · intro n i hi
        conv => lhs; unfold f20_i602_i603000102_2 f20_i602_i603000102_2b
        simp only [show (i : Int) < (l.length : Int) by omega, decide_true, cond_true, ix_getD hi, Option.bind_some, f44_eq, W_sub1 (show t.length ≤ 1000000 by omega), show (0 : Int) ≤ (i : Int) by omega]
        rw [W_nat (by omega)]
        by_cases e1 : 0 ≤ l.getD i 0 ∧ l.getD i 0 < t.length
        · rw [if_neg (by simpa using e1), show decide (0 ≤ l.getD i 0 ∧ l.getD i 0 ≤ (t.length : Int) - 1) = true by simp only [decide_eq_true_eq]; omega]; rfl
        · rw [if_pos e1, show decide (0 ≤ l.getD i 0 ∧ l.getD i 0 ≤ (t.length : Int) - 1) = false by simp only [decide_eq_false_iff_not]; omega]; rfl
      · intro n; (conv => lhs; unfold f20_i602_i603000102_2 f20_i602_i603000102_2b); simp; rfl
      · omega
  · rw [if_pos h1]; simp [h1]
theorem digT_ok {t : List (List Int)} {l : List Int} : digT t l = 0 ↔ Lat t ∧ l.length ≤ 12 ∧ Dig t l := by
  unfold digT
  rw [dig_iff, ← chkT_good]
  by_cases h1 : chkT t = 0
  · rw [if_neg (by simp [h1])]
    by_cases h2 : 12 < l.length
    · rw [if_pos h2]
      constructor
      · intro h; exact absurd h (by decide)
      · rintro ⟨_, h, _⟩; omega
    · rw [if_neg h2]
      by_cases h3 : ∃ i, i < l.length ∧ ¬ (0 ≤ l.getD i 0 ∧ l.getD i 0 < t.length)
      · rw [if_pos h3]
        exact ⟨fun h => absurd h (by decide), fun h => absurd h3 h.2.2⟩
      · rw [if_neg h3]
        exact ⟨fun _ => ⟨h1, by omega, h3⟩, fun _ => rfl⟩
  · rw [if_pos h1]
    exact ⟨fun h => absurd h h1, fun h => absurd h.1 h1⟩
theorem Lat.rowInj {t : List (List Int)} (h : Lat t) {s i j : Nat} (hs : s < t.length) (hi : i < t.length) (hj : j < t.length) (e : en t s i = en t s j) : i = j := by
  rcases Nat.lt_trichotomy i j with h1 | h1 | h1
  · exact absurd ⟨s, hs, j, hj, i, h1, .inl e.symm⟩ h.once
  · exact h1
  · exact absurd ⟨s, hs, i, hi, j, h1, .inl e⟩ h.once
theorem Lat.colInj {t : List (List Int)} (h : Lat t) {s i j : Nat} (hs : s < t.length) (hi : i < t.length) (hj : j < t.length) (e : en t i s = en t j s) : i = j := by
  rcases Nat.lt_trichotomy i j with h1 | h1 | h1
  · exact absurd ⟨s, hs, j, hj, i, h1, .inr e.symm⟩ h.once
  · exact h1
  · exact absurd ⟨s, hs, i, hi, j, h1, .inr e⟩ h.once
theorem dl_inj {t : List (List Int)} (h : Lat t) : ∀ {l : List Int} {a b : Nat}, a < t.length → b < t.length → Dig t l → dl t a l = dl t b l → a = b
  | [], a, b, _, _, _, e => e
  | d :: l, a, b, ha, hb, hd, e => by
    rw [dl_cons, dl_cons] at e
    have hd1 := hd.cons.1
    have := dl_inj h (h.step ha hd1).1 (h.step hb hd1).1 hd.cons.2 e
    have r1 := h.lo a d.toNat ha (by omega)
    have r2 := h.lo b d.toNat hb (by omega)
    exact h.colInj (s := d.toNat) (by omega) ha hb (by omega)
theorem Lat.digit {t : List (List Int)} (h : Lat t) {s : Nat} {post : List Int} (hs : s < t.length) (hp : Dig t post) {y : Nat} (hy : y < t.length) : ∃ d, d < t.length ∧ dl t (en t s d).toNat post = y :=
  pig t.length (fun d => dl t (en t s d).toNat post) (fun i hi => dl_lt h.toSq (by have := h.lo s i hs hi; omega) hp)
    (fun i j hi hj e => by
      have r1 := h.lo s i hs hi
      have r2 := h.lo s j hs hj
      have := dl_inj h (by omega) (by omega) hp e
      exact h.rowInj hs hi hj (by omega)) y hy
open Classical in
theorem f7_eq {N : Nat} {t : List (List Int)} {l : List Int} (hs : Small t) (hl : l.length ≤ 40) (hN : 500 ≤ N) : f7 N t l = some (if digT t l = 0 then (((dl t 0 l : Nat) : Int), (0 : Int)) else (0, digT t l)) := by
  unfold f7
  rw [f20_eq hs (by omega) hN]
  simp only [Option.bind_some]
  by_cases h : digT t l = 0
  · obtain ⟨h1, h2, h3⟩ := digT_ok.1 h
    have h0 := h1.two
    rw [show (0 : Int) = ((0 : Nat) : Int) from rfl, f21_eq h1.toSq h3 (by omega) (by omega) (by omega)]
    simp [h]
  · simp [h]
open Classical in
noncomputable def codT (t : List (List Int)) (l : List Int) : Int := if chkT t ≠ 0 then chkT t else if l.length < 2 then 1 else digT t l
open Classical in
theorem f23_eq {N : Nat} {t : List (List Int)} {l : List Int} (hs : Small t) (hl : l.length ≤ 50) (hN : 500 ≤ N) : f23 N t l = some (codT t l) := by
  unfold f23 codT
  rw [f42_eq hs hN]
  simp only [Option.bind_some]
  by_cases h1 : chkT t = 0
  · by_cases h2 : l.length < 2
    · simp [h1, h2, show (l.length : Int) < 2 by omega]
    · rw [f20_eq hs hl hN]
      simp [h1, h2, show ¬ (l.length : Int) < 2 by omega]
  · simp [h1]
theorem codT_ok {t : List (List Int)} {l : List Int} : codT t l = 0 ↔ Lat t ∧ 2 ≤ l.length ∧ l.length ≤ 12 ∧ Dig t l := by
  unfold codT
  by_cases h1 : chkT t = 0
  · rw [if_neg (by simp [h1])]
    by_cases h2 : l.length < 2
    · rw [if_pos h2]
      exact ⟨fun h => absurd h (by decide), fun h => by omega⟩
    · rw [if_neg h2, digT_ok]
      exact ⟨fun h => ⟨h.1, by omega, h.2⟩, fun h => ⟨h.1, h.2.2⟩⟩
  · rw [if_pos h1, ← chkT_good]
    exact ⟨fun h => absurd h h1, fun h => absurd h.1 h1⟩
open Classical in
noncomputable def rightT (t : List (List Int)) (l : List Int) : Int := if codT t l = 0 then if dl t 0 l = 0 then 0 else 13 else codT t l
theorem f9_eq {N : Nat} {t : List (List Int)} {l : List Int} (hs : Small t) (hl : l.length ≤ 40) (hN : 500 ≤ N) : f9 N t l = some (rightT t l) := by
  unfold f9 rightT
  rw [f23_eq hs (by omega) hN]
  simp only [Option.bind_some]
  by_cases h : codT t l = 0
  · obtain ⟨h1, h2, h3, h4⟩ := codT_ok.1 h
    have h0 := h1.two
    have := f21_eq (N := N) h1.toSq h4 (show 0 < t.length by omega) (by omega) (by omega)
    rw [show ((0 : Nat) : Int) = 0 from rfl] at this
    rw [this]
    by_cases h5 : dl t 0 l = 0 <;> simp [h, h5]
  · simp [h]
end Go.Vc
namespace Go.Vc
set_option linter.unusedVariables false
set_option linter.unnecessarySimpa false
set_option linter.unusedSimpArgs false
set_option linter.unusedSimpArgs false
theorem sub_pre {l : List Int} {k : Nat} (hk : k ≤ l.length) : sub l 0 (k : Int) = some (l.take k) := by
  have := sub_nat (l := l) (a := 0) (b := k) (by omega) hk
  simpa using this
theorem sub_post {l : List Int} {k : Nat} (hk : k ≤ l.length) : sub l (k : Int) (l.length : Int) = some (l.drop k) := by
  have := sub_nat (l := l) (a := k) (b := l.length) hk (by omega)
  simpa using this
theorem mem_getD {l : List Int} {i : Nat} (h : i < l.length) : l.getD i 0 ∈ l := by simp [h]
theorem tmod_nat (a b : Nat) : Int.tmod (a : Int) (b : Int) = ((a % b : Nat) : Int) := rfl
theorem chk_pos {n : Nat} (h : 0 < n) : chk (decide ((n : Int) ≠ 0)) = some () := by
  rw [show decide ((n : Int) ≠ 0) = true by simp; omega]; rfl
def rng (n : Nat) : List Int := (List.range n).map fun (i : Nat) => (i : Int)
theorem rng_succ {n : Nat} : rng (n + 1) = rng n ++ [(n : Int)] := by simp [rng, List.range_succ]
theorem rng_len {n : Nat} : (rng n).length = n := by simp [rng]
theorem rng_mem {n : Nat} {x : Int} (h : x ∈ rng n) : 0 ≤ x ∧ x < n := by
  simp only [rng, List.mem_map, List.mem_range] at h
  obtain ⟨a, h1, rfl⟩ := h; omega
theorem rng_nodup {n : Nat} : (rng n).Nodup := by
  unfold rng List.Nodup
  rw [List.pairwise_map]
  exact List.Pairwise.imp (fun h => by omega) List.nodup_range
def By (a : List Int) : Prop := ∀ x, x ∈ a → 0 ≤ x ∧ x ≤ 255
theorem By.get {a : List Int} (h : By a) {k : Nat} (hk : k < a.length) : ∃ x : Nat, ix a (k : Int) = some (x : Int) := by
  have := h _ (List.getElem_mem hk)
  exact ⟨a[k].toNat, by rw [ix_get hk]; congr 1; omega⟩
theorem perm_step {l o : List Int} {i : Nat} (hi : i < l.length) : ((l.take i ++ l.drop (i + 1)) ++ (o ++ [l[i]])).Perm (l ++ o) := by
  rw [List.perm_iff_count]
  intro a
  have h : List.count a l = List.count a (l.take i) + List.count a (l[i] :: l.drop (i + 1)) := by
    rw [← List.count_append, ← List.drop_eq_getElem_cons hi, List.take_append_drop]
  rw [List.count_cons] at h
  simp only [List.count_append, List.count_cons, List.count_nil] at h ⊢
  omega
theorem f17_loop {a : List Int} (ha : By a) {n : Nat} (hn : n ≤ 6) : ∀ (fu : Nat) (left out : List Int), left.length < fu → left.length + out.length = n → (left ++ out).Perm (rng n) →
    ∃ l : List Int, l.Perm (rng n) ∧ f17_7 a f17_c14 fu left out (out.length : Int) = some l := by
  intro fu
  induction fu with
  | zero => intro left out h; omega
  | succ fu ih =>
    intro left out hf hl hp
    by_cases e : left.length = 0
    · have : left = [] := List.eq_nil_of_length_eq_zero e
      subst this
      refine ⟨out, by simpa using hp, ?_⟩
      conv => lhs; unfold f17_7 f17_7b
      simp [f17_c14]
    · have hW : W ((out.length : Int) + (1 : Int)) = ((out.length + 1 : Nat) : Int) := W_nat (by omega)
      obtain ⟨i, hi, hq⟩ : ∃ i, i < left.length ∧ ∀ k2 : Int → Option (List Int), (bif decide ((out.length : Int) < (a.length : Int)) then ((ix a (out.length : Int)).bind fun x7 => (chk (decide ((left.length : Int) ≠ 0))).bind fun _ => k2 (Int.tmod x7 (left.length : Int))) else k2 0) = k2 (i : Int) := by
        by_cases hb : out.length < a.length
        · obtain ⟨x, hx⟩ := ha.get hb
          refine ⟨x % left.length, Nat.mod_lt _ (by omega), fun k2 => ?_⟩
          simp only [show (out.length : Int) < (a.length : Int) by omega, decide_true, cond_true, hx, Option.bind_some, chk_pos (show 0 < left.length by omega), tmod_nat]
        · exact ⟨0, by omega, fun k2 => by simp [show ¬ (out.length : Int) < (a.length : Int) by omega]⟩
      obtain ⟨l, hl1, hl2⟩ := ih (left.take i ++ left.drop (i + 1)) (out ++ [left[i]]) (by simp; omega) (by simp; omega) ((perm_step hi).trans hp)
      refine ⟨l, hl1, ?_⟩
      conv => lhs; unfold f17_7 f17_7b
      rw [show decide ((0 : Int) < (left.length : Int)) = true by simp; omega]
      simp only [cond_true, joinK]
      rw [hq]
      unfold f17_c12
      simp only [joinK, ix_get hi, Option.bind_some]
      rw [app_ok (by simp; omega) (by simp; omega)]
      simp only [Option.bind_some]
      unfold f17_c13
      rw [sub_pre (by omega)]
      simp only [Option.bind_some]
      rw [app_ok (by simp; omega) (by simp; omega)]
      simp only [Option.bind_some, List.nil_append]
      rw [W_nat (by omega), sub_post (by omega)]
      simp only [Option.bind_some]
      rw [app_ok (by simp; omega) (by simp; omega)]
      simp only [Option.bind_some]
      rw [W_nat (by omega)]
      simpa using hl2
theorem f17_eq {N : Nat} {a : List Int} (ha : By a) {n : Nat} (hn : n ≤ 6) (hN : 30 ≤ N) : ∃ l : List Int, l.Perm (rng n) ∧ f17 N (n : Int) a = some l := by
  obtain ⟨l, h1, h2⟩ := f17_loop ha hn N (rng n) [] (by rw [rng_len]; omega) (by simp [rng_len]) (by simp)
  refine ⟨l, h1, ?_⟩
  unfold f17
  simp only [joinK]
  obtain ⟨e1, e2⟩ := loop_inv0 (F := f17_3 (n : Int) a (f17_c6 a N)) (k := f17_c6 a N) (fun s i => s ++ [(i : Int)]) (fun i s => s = rng i) n (by
    intro m s i hi h
    subst h
    conv => lhs; unfold f17_3 f17_3b
    rw [show decide ((i : Int) < (n : Int)) = true by simp; omega]
    simp only [cond_true]
    rw [app_ok (by simp [rng_len]; omega) (by simp [rng_len]; omega)]
    simp only [Option.bind_some]
    rw [W_nat (by omega)]) (by intro s i hi h; rw [h, rng_succ]) (by intro m s; (conv => lhs; unfold f17_3 f17_3b); simp) (n := N) (s := []) (by omega) rfl
  rw [e1, e2]
  unfold f17_c6
  simp only [joinK]
  exact h2
def gR (n : Nat) (r c m : List Int) (s d : Nat) : Int := m.getD ((r.getD s 0 + c.getD d 0).toNat % n) 0
def rowR (n : Nat) (r c m : List Int) (s k : Nat) : List Int := (List.range k).map fun d => gR n r c m s d
def tabR (n : Nat) (r c m : List Int) (k : Nat) : List (List Int) := (List.range k).map fun s => rowR n r c m s n
theorem rowR_succ {n : Nat} {r c m : List Int} {s k : Nat} : rowR n r c m s (k + 1) = rowR n r c m s k ++ [gR n r c m s k] := by simp [rowR, List.range_succ]
theorem tabR_succ {n : Nat} {r c m : List Int} {k : Nat} : tabR n r c m (k + 1) = tabR n r c m k ++ [rowR n r c m k n] := by simp [tabR, List.range_succ]
theorem rowR_len {n : Nat} {r c m : List Int} {s k : Nat} : (rowR n r c m s k).length = k := by simp [rowR]
theorem tabR_len {n : Nat} {r c m : List Int} {k : Nat} : (tabR n r c m k).length = k := by simp [tabR]
theorem mid_get {A B : List (List Int)} {x : List Int} : ix (A ++ x :: B) (A.length : Int) = some x := by simp [ix_nat]
theorem mid_set {A B : List (List Int)} {x y : List Int} : setx (A ++ x :: B) (A.length : Int) y = some (A ++ y :: B) := by
  unfold setx
  rw [if_pos ⟨by omega, by simp; omega⟩]
  simp
structure Perms (n : Nat) (r c m : List Int) : Prop where
  hn : 2 ≤ n ∧ n ≤ 6
  r : r.Perm (rng n)
  c : c.Perm (rng n)
  m : m.Perm (rng n)
theorem perm_len {l : List Int} {n : Nat} (h : l.Perm (rng n)) : l.length = n := by rw [h.length_eq, rng_len]
theorem perm_at {l : List Int} {n i : Nat} (h : l.Perm (rng n)) (hi : i < n) : 0 ≤ l.getD i 0 ∧ l.getD i 0 < n := by
  have := perm_len h
  exact rng_mem (h.mem_iff.1 (mem_getD (by omega)))
theorem perm_inj {l : List Int} {n i j : Nat} (h : l.Perm (rng n)) (hi : i < n) (hj : j < n) (e : l.getD i 0 = l.getD j 0) : i = j := by
  have hl := perm_len h
  have hd : l.Nodup := h.nodup_iff.2 rng_nodup
  have hd := List.pairwise_iff_getElem.1 hd
  have e : l[i] = l[j] := by simpa [show i < l.length by omega, show j < l.length by omega] using e
  rcases Nat.lt_trichotomy i j with h1 | h1 | h1
  · exact absurd e (hd i j (by omega) (by omega) h1)
  · exact h1
  · exact absurd e.symm (hd j i (by omega) (by omega) h1)
theorem tab_row {n : Nat} {r c m : List Int} {i : Nat} (hi : i < n) : row (tabR n r c m n) i = rowR n r c m i n := by
  simp [row, tabR, hi]
theorem tab_en {n : Nat} {r c m : List Int} {i j : Nat} (hi : i < n) (hj : j < n) : en (tabR n r c m n) i j = gR n r c m i j := by
  unfold en; rw [tab_row hi]
  simp [rowR, hj]
theorem mod_inj {n a x y : Nat} (hn : 2 ≤ n ∧ n ≤ 6) (ha : a < n) (hx : x < n) (hy : y < n) (e : (a + x) % n = (a + y) % n) : x = y := by
  obtain ⟨h1, h2⟩ := hn
  rcases (show n = 2 ∨ n = 3 ∨ n = 4 ∨ n = 5 ∨ n = 6 by omega) with rfl | rfl | rfl | rfl | rfl <;> omega
theorem gR_in {n : Nat} {r c m : List Int} (h : Perms n r c m) {i j : Nat} : 0 ≤ gR n r c m i j ∧ gR n r c m i j < n :=
  perm_at h.m (Nat.mod_lt _ (by have := h.hn; omega))
theorem gR_row {n : Nat} {r c m : List Int} (h : Perms n r c m) {i j k : Nat} (hi : i < n) (hj : j < n) (hk : k < n) (e : gR n r c m i j = gR n r c m i k) : j = k := by
  have h0 := h.hn
  have e1 := perm_inj h.m (Nat.mod_lt _ (by omega)) (Nat.mod_lt _ (by omega)) e
  have a1 := perm_at h.r hi
  have a2 := perm_at h.c hj
  have a3 := perm_at h.c hk
  obtain ⟨x, hx⟩ : ∃ x : Nat, r.getD i 0 = (x : Int) := ⟨(r.getD i 0).toNat, by omega⟩
  obtain ⟨y, hy⟩ : ∃ x : Nat, c.getD j 0 = (x : Int) := ⟨(c.getD j 0).toNat, by omega⟩
  obtain ⟨z, hz⟩ : ∃ x : Nat, c.getD k 0 = (x : Int) := ⟨(c.getD k 0).toNat, by omega⟩
  rw [hx, hy, hz, show ((x : Int) + (y : Int)).toNat = x + y by omega, show ((x : Int) + (z : Int)).toNat = x + z by omega] at e1
  have := mod_inj h0 (show x < n by omega) (show y < n by omega) (show z < n by omega) e1
  subst this
  exact perm_inj h.c hj hk (hy.trans hz.symm)
theorem gR_col {n : Nat} {r c m : List Int} (h : Perms n r c m) {i j k : Nat} (hi : i < n) (hj : j < n) (hk : k < n) (e : gR n r c m j i = gR n r c m k i) : j = k := by
  have h0 := h.hn
  have e1 := perm_inj h.m (Nat.mod_lt _ (by omega)) (Nat.mod_lt _ (by omega)) e
  have a1 := perm_at h.c hi
  have a2 := perm_at h.r hj
  have a3 := perm_at h.r hk
  obtain ⟨x, hx⟩ : ∃ x : Nat, c.getD i 0 = (x : Int) := ⟨(c.getD i 0).toNat, by omega⟩
  obtain ⟨y, hy⟩ : ∃ x : Nat, r.getD j 0 = (x : Int) := ⟨(r.getD j 0).toNat, by omega⟩
  obtain ⟨z, hz⟩ : ∃ x : Nat, r.getD k 0 = (x : Int) := ⟨(r.getD k 0).toNat, by omega⟩
  rw [hx, hy, hz, show ((y : Int) + (x : Int)).toNat = x + y by omega, show ((z : Int) + (x : Int)).toNat = x + z by omega] at e1
  have := mod_inj h0 (show x < n by omega) (show y < n by omega) (show z < n by omega) e1
  subst this
  exact perm_inj h.r hj hk (hy.trans hz.symm)
theorem tab_lat {n : Nat} {r c m : List Int} (h : Perms n r c m) : Lat (tabR n r c m n) := by
  have h0 := h.hn
  refine ⟨⟨by rw [tabR_len]; omega, fun i hi => ?_, fun i j hi hj => ?_⟩, by rw [tabR_len]; omega, ?_⟩
  · rw [tabR_len] at hi ⊢
    rw [tab_row hi, rowR_len]
  · rw [tabR_len] at hi hj ⊢
    rw [tab_en hi hj]; exact gR_in h
  · rintro ⟨i, hi, j, hj, k, hk, e⟩
    rw [tabR_len] at hi hj
    rw [tab_en hi hj, tab_en hi (by omega), tab_en hj hi, tab_en (by omega) hi] at e
    rcases e with e | e
    · have := gR_row h hi hj (by omega) e; omega
    · have := gR_col h hi hj (by omega) e; omega
theorem tab_small {n : Nat} {r c m : List Int} (h : Perms n r c m) : Small (tabR n r c m n) := by
  have h0 := h.hn
  refine ⟨by rw [tabR_len]; omega, fun x hx => ?_⟩
  simp only [tabR, List.mem_map] at hx
  obtain ⟨s, _, rfl⟩ := hx
  rw [rowR_len]; omega
theorem rng_at {n i : Nat} (h : i < n) : (rng n).getD i 0 = (i : Int) := by simp [rng, h]
theorem f5_in {n : Nat} {r m : List Int} {x3 : List (List Int)} {k1 : List (List Int) → Option (List (List Int))} (h : Perms n r (rng n) m) {s : Nat} (hs : s < n) {A B : List (List Int)} (hA : A.length = s) :
    ∀ fu d, d ≤ n → n - d < fu → f5_7 (n : Int) r m x3 (s : Int) k1 fu (d : Int) (A ++ rowR n r (rng n) m s d :: B) = k1 (A ++ rowR n r (rng n) m s n :: B) := by
  intro fu
  induction fu with
  | zero => intro d _ h; omega
  | succ fu ih =>
    intro d hd hf
    have h0 := h.hn
    conv => lhs; unfold f5_7 f5_7b
    by_cases e : d = n
    · subst e; simp
    · have hd : d < n := by omega
      have a1 := perm_at h.r hs
      have a2 := perm_at h.c hd
      rw [rng_at hd] at a2
      have hw : W (r.getD s 0 + (d : Int)) = (((r.getD s 0 + (rng n).getD d 0).toNat : Nat) : Int) := by
        rw [rng_at hd, show (((r.getD s 0 + (d : Int)).toNat : Nat) : Int) = r.getD s 0 + (d : Int) by omega]
        exact W_of (by omega) (by omega)
      have q1 : ix (A ++ rowR n r (rng n) m s d :: B) (s : Int) = some (rowR n r (rng n) m s d) := by rw [← hA]; exact mid_get
      have q2 : setx (A ++ rowR n r (rng n) m s d :: B) (s : Int) (rowR n r (rng n) m s (d + 1)) = some (A ++ rowR n r (rng n) m s (d + 1) :: B) := by rw [← hA]; exact mid_set
      rw [show decide ((d : Int) < (n : Int)) = true by simp; omega]
      simp only [cond_true, q1, ix_getD (show s < r.length by rw [perm_len h.r]; exact hs), Option.bind_some, chk_pos (show 0 < n by omega), hw, tmod_nat,
        ix_getD (show (r.getD s 0 + (rng n).getD d 0).toNat % n < m.length by rw [perm_len h.m]; exact Nat.mod_lt _ (by omega))]
      rw [app_ok (by simp [rowR_len]; omega) (by simp [rowR_len]; omega)]
      simp only [Option.bind_some]
      rw [show rowR n r (rng n) m s d ++ [m.getD ((r.getD s 0 + (rng n).getD d 0).toNat % n) 0] = rowR n r (rng n) m s (d + 1) from rowR_succ.symm, q2]
      simp only [Option.bind_some]
      rw [W_nat (by omega)]
      exact ih (d + 1) hd (by omega)
theorem f5_eq {N n : Nat} {a b : List Int} (ha : By a) (hb : By b) (hn : 2 ≤ n ∧ n ≤ 6) (hN : 30 ≤ N) : ∃ r m, Perms n r (rng n) m ∧ f5 N (n : Int) a b = some (tabR n r (rng n) m n) := by
  obtain ⟨r, hr1, hr2⟩ := f17_eq (N := N) ha hn.2 hN
  obtain ⟨m, hm1, hm2⟩ := f17_eq (N := N) hb hn.2 hN
  have hP : Perms n r (rng n) m := ⟨hn, hr1, List.Perm.refl _, hm1⟩
  refine ⟨r, m, hP, ?_⟩
  unfold f5
  rw [hr2, hm2]
  have hmk : mkS 24 ([] : List Int) (n : Int) (n : Int) = some (List.replicate n []) := by
    unfold mkS
    rw [if_pos ⟨by omega, by omega, by omega⟩]; simp
  simp only [Option.bind_some, hmk, joinK]
  have key : ∀ fu s, s ≤ n → n - s < fu → f5_4 (n : Int) N r m (List.replicate n []) f5_c11 fu (s : Int) (tabR n r (rng n) m s ++ List.replicate (n - s) []) = some (tabR n r (rng n) m n) := by
    intro fu
    induction fu with
    | zero => intro s _ h; omega
    | succ fu ih =>
      intro s hs hf
      conv => lhs; unfold f5_4 f5_4b
      by_cases e : s = n
      · subst e; simp [f5_c11]
      · have hs : s < n := by omega
        rw [show decide ((s : Int) < ((List.replicate n ([] : List Int)).length : Int)) = true by simp; omega]
        simp only [cond_true, joinK]
        obtain ⟨a, ha⟩ : ∃ a, n - s = a + 1 := ⟨n - s - 1, by omega⟩
        rw [ha, List.replicate_succ]
        have := f5_in (x3 := List.replicate n []) (k1 := f5_c10 (n : Int) r m (List.replicate n []) (s : Int) (f5_4 (n : Int) N r m (List.replicate n []) f5_c11 fu)) hP hs (A := tabR n r (rng n) m s) (B := List.replicate a []) tabR_len N 0 (by omega) (by omega)
        rw [show ((0 : Nat) : Int) = 0 from rfl, show rowR n r (rng n) m s 0 = [] from rfl] at this
        rw [this]
        unfold f5_c10
        rw [W_nat (by omega)]
        have := ih (s + 1) hs (by omega)
        rw [tabR_succ, List.append_assoc, show n - (s + 1) = a by omega] at this
        exact this
  have := key N 0 (by omega) (by omega)
  simpa [tabR] using this
theorem f8_eq {N : Nat} {t : List (List Int)} {l : List Int} (hs : Small t) (h1 : Lat t) (h2 : l.length ≤ 12) (h3 : Dig t l) (hN : 500 ≤ N) :
    ∃ d : Nat, d < t.length ∧ f8 N t l = some ((d : Int), 0) ∧ en t (dl t 0 l) d = 0 := by
  unfold f8
  rw [f7_eq hs (by omega) hN, if_pos (digT_ok.2 ⟨h1, h2, h3⟩)]
  have h0 := h1.two
  have hlen := h1.hi
  have hs : dl t 0 l < t.length := dl_lt h1.toSq (by omega) h3
  simp only [Option.bind_some, not_true_eq_false, decide_false, cond_false, ix_row hs, joinK]
  obtain ⟨m, hm, hm2⟩ := h1.digit hs (post := []) (fun x hx => by cases hx) (y := 0) (by omega)
  have hm3 : en t (dl t 0 l) m = 0 := by have := h1.lo _ m hs hm; rw [dl_nil] at hm2; omega
  have a1 := loop_find (F := f22_2 (row t (dl t 0 l)) 0 f22_c7) (k := fun i => some ((i : Nat) : Int)) (p := fun i => en t (dl t 0 l) i = 0) m hm3 (by
    intro n i hi hp
    conv => lhs; unfold f22_2 f22_2b
    simp only [h1.len _ hs, show (i : Int) < (t.length : Int) by omega, decide_true, cond_true, h1.ix hs (show i < t.length by omega), Option.bind_some, show ¬ (0 : Int) = en t (dl t 0 l) i from fun hh => hp hh.symm, decide_false, cond_false]
    rw [W_nat (by omega)]) (by
    intro n i hi hp
    conv => lhs; unfold f22_2 f22_2b
    simp only [h1.len _ hs, show (i : Int) < (t.length : Int) by omega, decide_true, cond_true, h1.ix hs (show i < t.length by omega), Option.bind_some, show (0 : Int) = en t (dl t 0 l) i from hp.symm, decide_true]) N 0 (by omega) (by omega)
  obtain ⟨j, _, hj, pj, _, ej⟩ := a1
  refine ⟨j, by omega, ?_, pj⟩
  unfold f22
  simp only [joinK]
  rw [show (0 : Int) = ((0 : Nat) : Int) from rfl] at ej ⊢
  rw [ej]; rfl
end Go.Vc
namespace Go.Vc
open Go.Proofs
set_option linter.unusedVariables false
set_option linter.unnecessarySimpa false
set_option linter.unusedSimpArgs false
set_option linter.unusedSimpArgs false
theorem chk_nn {c : Nat} : chk (decide ((0 : Int) ≤ (c : Int))) = some () := by simp [chk]
theorem or8 {m n : Nat} (hm : m < 256) (hn : n < 256) : bitsI .or .u8 (m : Int) (n : Int) = ((m ||| n : Nat) : Int) := by
  have e : (BitVec.ofInt 8 (m : Int) ||| BitVec.ofInt 8 (n : Int)).toNat = m ||| n := by
    rw [BitVec.toNat_or, BitVec.ofInt_natCast, BitVec.ofInt_natCast, BitVec.toNat_ofNat, BitVec.toNat_ofNat, Nat.mod_eq_of_lt (show m < 2 ^ 8 by omega), Nat.mod_eq_of_lt (show n < 2 ^ 8 by omega)]
  have e2 : bitsI .or .u8 (m : Int) (n : Int) = IntKind.u8.wrap ((m ||| n : Nat) : Int) := congrArg (fun k : Nat => IntKind.u8.wrap (k : Int)) e
  rw [e2]
  have := Nat.or_lt_two_pow (n := 8) hm hn
  exact wrap_id (by simp [IntKind.min, IntKind.max, IntKind.signed, IntKind.bits]; omega)
theorem and8 {m n : Nat} (hm : m < 256) (hn : n < 256) : bitsI .and .u8 (m : Int) (n : Int) = ((m &&& n : Nat) : Int) := by
  have e : (BitVec.ofInt 8 (m : Int) &&& BitVec.ofInt 8 (n : Int)).toNat = m &&& n := by
    rw [BitVec.toNat_and, BitVec.ofInt_natCast, BitVec.ofInt_natCast, BitVec.toNat_ofNat, BitVec.toNat_ofNat, Nat.mod_eq_of_lt (show m < 2 ^ 8 by omega), Nat.mod_eq_of_lt (show n < 2 ^ 8 by omega)]
  have e2 : bitsI .and .u8 (m : Int) (n : Int) = IntKind.u8.wrap ((m &&& n : Nat) : Int) := congrArg (fun k : Nat => IntKind.u8.wrap (k : Int)) e
  rw [e2]
  have := Nat.and_lt_two_pow m (show n < 2 ^ 8 by omega)
  exact wrap_id (by simp [IntKind.min, IntKind.max, IntKind.signed, IntKind.bits]; omega)
theorem sh8 : ∀ c : Nat, c < 8 → Wk .u8 ((1 : Int) * 2 ^ (min (Int.toNat (c : Int)) 8)) = ((2 ^ c : Nat) : Int) := by decide
theorem pow8 {c : Nat} (h : c < 8) : 2 ^ c < 256 := Nat.pow_lt_pow_right (by omega) (show c < 8 from h)
theorem f49_eq {N m c : Nat} (hm : m < 256) (hc : c < 8) : f49 N (m : Int) (c : Int) = some (m.testBit c) := by
  unfold f49
  rw [Int.toNat_natCast, show min c 8 = c by omega]
  have e : Int.fdiv (m : Int) (2 ^ c) = ((m / 2 ^ c : Nat) : Int) := by
    have : (2 : Int) ^ c = ((2 ^ c : Nat) : Int) := by simp
    rw [this, Int.fdiv_eq_ediv_of_nonneg _ (Int.natCast_nonneg _)]; rfl
  have e1 : bitsI .and .u8 ((m / 2 ^ c : Nat) : Int) (1 : Int) = ((m / 2 ^ c % 2 : Nat) : Int) := by
    have := and8 (m := m / 2 ^ c) (n := 1) (by have := Nat.div_le_self m (2 ^ c); omega) (by omega)
    rw [show ((1 : Nat) : Int) = 1 from rfl] at this
    rw [this, Nat.and_one_is_mod]
  rw [e, e1, Nat.testBit_eq_decide_div_mod_eq]
  simp only [chk_nn, Option.bind_some, Option.some.injEq, decide_eq_decide]
  omega
def lsN (m : Nat) : List Nat := (List.range 7).filter fun c => m.testBit c
def lsI (m : Nat) : List Int := (lsN m).map fun (c : Nat) => (c : Int)
theorem mem_lsN {m c : Nat} : c ∈ lsN m ↔ c < 7 ∧ m.testBit c = true := by simp [lsN]
theorem lsN_len {m : Nat} : (lsN m).length ≤ 7 := by
  have := List.length_filter_le (fun c => m.testBit c) (List.range 7)
  simpa [lsN] using this
theorem lsN_full {m n : Nat} (hn : n ≤ 7) (h : ∀ c, m.testBit c = true ↔ c < n) : lsN m = List.range n := by
  have e : lsN m = (List.range 7).filter fun c => decide (c < n) := by
    unfold lsN
    refine List.filter_congr fun c _ => ?_
    have := h c
    by_cases hc : c < n
    · simp [hc, this.2 hc]
    · cases hb : m.testBit c
      · simp [hc]
      · exact absurd (this.1 hb) hc
  rw [e]
  rcases (show n = 0 ∨ n = 1 ∨ n = 2 ∨ n = 3 ∨ n = 4 ∨ n = 5 ∨ n = 6 ∨ n = 7 by omega) with rfl | rfl | rfl | rfl | rfl | rfl | rfl | rfl <;> rfl
def lsK (m k : Nat) : List Int := ((List.range k).filter fun c => m.testBit c).map fun (c : Nat) => (c : Int)
theorem lsK_succ {m k : Nat} : lsK m (k + 1) = if m.testBit k = true then lsK m k ++ [(k : Int)] else lsK m k := by
  unfold lsK
  rw [List.range_succ, List.filter_append]
  cases h : m.testBit k <;> simp [h]
theorem lsK_len {m k : Nat} : (lsK m k).length ≤ k := by
  have := List.length_filter_le (fun c => m.testBit c) (List.range k)
  simpa [lsK] using this
theorem f26_eq {N m : Nat} (hm : m < 256) (hN : 10 ≤ N) : f26 N (m : Int) = some (lsI m) := by
  unfold f26
  simp only [joinK]
  obtain ⟨e1, e2⟩ := loop_inv0 (F := f26_4 (m : Int) N f26_c9) (k := f26_c9) (fun s i => if m.testBit i = true then s ++ [(i : Int)] else s) (fun i s => s = lsK m i) 7 (by
    intro n s i hi h
    subst h
    conv => lhs; unfold f26_4 f26_4b
    have := lsK_len (m := m) (k := i)
    simp only [show (i : Int) < 7 by omega, decide_true, cond_true, f49_eq hm (show i < 8 by omega), Option.bind_some]
    cases hb : m.testBit i
    · simp only [cond_false]
      rw [W_nat (by omega)]; simp
    · simp only [cond_true]
      rw [app_ok (by simp; omega) (by simp; omega)]
      simp only [Option.bind_some]
      rw [W_nat (by omega)]; simp) (by intro s i hi h; rw [h, lsK_succ]) (by intro n s; (conv => lhs; unfold f26_4 f26_4b); simp) (n := N) (s := []) (by omega) rfl
  rw [e1, e2]; rfl
theorem ix_lsI {m i : Nat} (h : i < (lsN m).length) : ix (lsI m) (i : Int) = some (((lsN m).getD i 0 : Nat) : Int) := by
  rw [ix_nat]; simp [lsI, h]
structure Pal (p : Palette) : Prop where
  c2 : 2 ≤ p.Colours
  c7 : p.Colours ≤ 7
  i1 : 1 ≤ p.Inks.length
  i6 : p.Inks.length ≤ 6
  len : ∀ d, d < p.Inks.length → ((row p.Inks d).length : Int) = p.Colours
  rng : ∀ d c : Nat, d < p.Inks.length → (c : Int) < p.Colours → 0 ≤ en p.Inks d c ∧ en p.Inks d c < p.Colours
def ik (p : Palette) (d c : Nat) : Nat := (en p.Inks d c).toNat
theorem Pal.ik {p : Palette} (h : Pal p) {d c : Nat} (hd : d < p.Inks.length) (hc : (c : Int) < p.Colours) : ((Vc.ik p d c : Nat) : Int) = en p.Inks d c ∧ ((Vc.ik p d c : Nat) : Int) < p.Colours := by
  have := h.rng d c hd hc
  unfold Vc.ik
  omega
theorem f27_eq {N : Nat} {a b c : Int} : f27 N a b c = some (decide (a ≤ b ∧ b ≤ c)) := by
  unfold f27
  by_cases h : a ≤ b <;> simp [h]
theorem f24_ok {p : Palette} (h : Pal p) {N : Nat} (hN : 20 ≤ N) : f24 N p = some 0 := by
  have h2 := h.c2; have h7 := h.c7; have i1 := h.i1; have i6 := h.i6
  unfold f24
  rw [f27_eq, show decide (2 ≤ p.Colours ∧ p.Colours ≤ 7) = true by simp [h2, h7]]
  simp only [Option.bind_some, Bool.not_true, cond_false, show ¬ (p.Inks.length : Int) = 0 by omega, decide_false, show ¬ (6 : Int) < (p.Inks.length : Int) by omega, joinK]
  rw [loop_ex0 (F := f24_8 p N f24_c15) (e := some 0) (k0 := f24_c15) (p := fun _ => False) p.Inks.length]
  · simp; rfl
  · intro n d hd
    rw [if_neg (by simp)]
    conv => lhs; unfold f24_8 f24_8b
    simp only [show (d : Int) < (p.Inks.length : Int) by omega, decide_true, cond_true, ix_row hd, Option.bind_some, h.len d hd, not_true_eq_false, decide_false, cond_false, joinK]
    have hlen := h.len d hd
    rw [loop_ex0 (F := f24_i1202_i1203000102_2 p N (d : Int) (f24_8 p N f24_c15 n) (row p.Inks d) (f24_i1202_i1203000102_c7 p (d : Int) (f24_8 p N f24_c15 n))) (e := some 0) (k0 := f24_i1202_i1203000102_c7 p (d : Int) (f24_8 p N f24_c15 n)) (p := fun _ => False) (row p.Inks d).length]
    · simp only [and_false, exists_false, if_false]
      unfold f24_i1202_i1203000102_c7
      rw [W_nat (by omega)]
    · intro m c hc
      rw [if_neg (by simp)]
      conv => lhs; unfold f24_i1202_i1203000102_2 f24_i1202_i1203000102_2b
      have := h.rng d c hd (by omega)
      simp only [show (c : Int) < ((row p.Inks d).length : Int) by omega, decide_true, cond_true, ix_en hc, Option.bind_some, f27_eq]
      rw [show W (p.Colours - 1) = p.Colours - 1 from W_of (by omega) (by omega), show decide (0 ≤ en p.Inks d c ∧ en p.Inks d c ≤ p.Colours - 1) = true by simp; omega]
      simp only [Bool.not_true, cond_false]
      rw [W_nat (by omega)]
    · intro m; (conv => lhs; unfold f24_i1202_i1203000102_2 f24_i1202_i1203000102_2b); simp
    · omega
  · intro n; (conv => lhs; unfold f24_8 f24_8b); simp
  · omega
theorem f39_eq {N : Nat} {l : List Int} (h1 : 1 ≤ l.length) (h2 : l.length ≤ 1000) (hN : 2000 ≤ N) : ∃ M, f39 N l = some M ∧ ∀ j, j < l.length → l.getD j 0 ≤ M := by
  unfold f39
  simp only [show ¬ (l.length : Int) < 1 by omega, decide_false, cond_false, joinK]
  have h0 : ix l (0 : Int) = some (l.getD 0 0) := ix_getD (i := 0) (by omega)
  rw [h0]
  simp only [Option.bind_some]
  have := loopI (F := fun n s i => f39_5 l f39_c8 n s i) l.length (fun i m => ∀ j, j < i → l.getD j 0 ≤ m) (fun M => ∀ j, j < l.length → l.getD j 0 ≤ M) (by
    intro n s i hI hi
    refine .inr ⟨max s (l.getD i 0), fun j hj => ?_, ?_⟩
    · by_cases e : j = i
      · subst e; omega
      · have := hI j (by omega); omega
    · conv => lhs; unfold f39_5 f39_5b
      simp only [show (i : Int) < (l.length : Int) by omega, decide_true, cond_true, ix_getD hi, Option.bind_some]
      rw [W_nat (by omega)]) (by
    intro n s hI
    refine ⟨s, ?_, hI⟩
    (conv => lhs; unfold f39_5 f39_5b); simp [f39_c8]) N (l.getD 0 0) 1 (fun j hj => by rw [show j = 0 by omega]; exact Int.le_refl _) (by omega) (by omega)
  exact this
theorem f40_eq {N : Nat} {l : List Int} (h1 : 1 ≤ l.length) (h2 : l.length ≤ 1000) (hN : 2000 ≤ N) : ∃ M, f40 N l = some M ∧ ∀ j, j < l.length → M ≤ l.getD j 0 := by
  unfold f40
  simp only [show ¬ (l.length : Int) < 1 by omega, decide_false, cond_false, joinK]
  have h0 : ix l (0 : Int) = some (l.getD 0 0) := ix_getD (i := 0) (by omega)
  rw [h0]
  simp only [Option.bind_some]
  have := loopI (F := fun n s i => f40_5 l f40_c8 n s i) l.length (fun i m => ∀ j, j < i → m ≤ l.getD j 0) (fun M => ∀ j, j < l.length → M ≤ l.getD j 0) (by
    intro n s i hI hi
    refine .inr ⟨min s (l.getD i 0), fun j hj => ?_, ?_⟩
    · by_cases e : j = i
      · subst e; omega
      · have := hI j (by omega); omega
    · conv => lhs; unfold f40_5 f40_5b
      simp only [show (i : Int) < (l.length : Int) by omega, decide_true, cond_true, ix_getD hi, Option.bind_some]
      rw [W_nat (by omega)]) (by
    intro n s hI
    refine ⟨s, ?_, hI⟩
    (conv => lhs; unfold f40_5 f40_5b); simp [f40_c8]) N (l.getD 0 0) 1 (fun j hj => by rw [show j = 0 by omega]; exact Int.le_refl _) (by omega) (by omega)
  exact this
def InkIs (k : I56) (l : List Int) : Prop := k = .c82 l ∨ ∃ x, k = .c81 x ∧ ∀ c, c < l.length → l.getD c 0 = x
theorem f19_eq {p : Palette} (h : Pal p) {N d : Nat} (hd : d < p.Inks.length) (hN : 2000 ≤ N) : ∃ k, f19 N p (d : Int) = some k ∧ InkIs k (row p.Inks d) := by
  have hlen := h.len d hd
  have h2 := h.c2; have h7 := h.c7
  obtain ⟨M, hM, hM2⟩ := f39_eq (N := N) (l := row p.Inks d) (by omega) (by omega) hN
  obtain ⟨m, hm, hm2⟩ := f40_eq (N := N) (l := row p.Inks d) (by omega) (by omega) hN
  unfold f19
  rw [ix_row hd]
  simp only [Option.bind_some]
  rw [hM]; simp only [Option.bind_some]
  rw [hm]; simp only [Option.bind_some]
  by_cases e : M = m
  · have h0 : ix (row p.Inks d) (0 : Int) = some ((row p.Inks d).getD 0 0) := ix_getD (i := 0) (by omega)
    simp only [e, decide_true, cond_true]
    rw [h0]
    refine ⟨_, rfl, .inr ⟨_, rfl, fun c hc => ?_⟩⟩
    have a1 := hM2 c hc
    have a2 := hm2 c hc
    have a3 := hM2 0 (by omega)
    have a4 := hm2 0 (by omega)
    omega
  · simp only [e, decide_false, cond_false]
    exact ⟨_, rfl, .inl rfl⟩
structure Set8 (p : Palette) (m : Nat) : Prop where
  lo : m.testBit 0 = true
  in' : ∀ c, m.testBit c = true → (c : Int) < p.Colours
theorem Set8.lt {p : Palette} (hp : Pal p) {m : Nat} (h : Set8 p m) : m < 128 := by
  have h7 := hp.c7
  refine Nat.lt_pow_two_of_testBit (n := 7) m fun i hi => ?_
  cases hb : m.testBit i
  · rfl
  · have := h.in' i hb; omega
theorem Set8.one {p : Palette} (hp : Pal p) : Set8 p 1 := by
  have h2 := hp.c2
  refine ⟨rfl, fun c hc => ?_⟩
  rw [show (1 : Nat) = 2 ^ 0 from rfl, Nat.testBit_two_pow] at hc
  simp at hc
  subst hc; simp; omega
def PrintOf (p : Palette) (d m m' : Nat) : Prop := ∀ j, m'.testBit j = true ↔ m.testBit j = true ∨ ∃ c, m.testBit c = true ∧ ik p d c = j
theorem PrintOf.set {p : Palette} (hp : Pal p) {d m m' : Nat} (hd : d < p.Inks.length) (hm : Set8 p m) (h : PrintOf p d m m') : Set8 p m' := by
  refine ⟨(h 0).2 (.inl hm.lo), fun j hj => ?_⟩
  rcases (h j).1 hj with h1 | ⟨c, h1, h2⟩
  · exact hm.in' j h1
  · have := (hp.ik hd (hm.in' c h1)).2
    omega
theorem f25_eq {p : Palette} (hp : Pal p) {N d m : Nat} {k : I56} (hd : d < p.Inks.length) (hk : InkIs k (row p.Inks d)) (hm : Set8 p m) (hN : 2000 ≤ N) : ∃ m' : Nat, f25 N (m : Int) k = some (m' : Int) ∧ PrintOf p d m m' := by
  have hlt := hm.lt hp
  have hlen := hp.len d hd
  have h2 := hp.c2; have h7 := hp.c7
  rcases hk with rfl | ⟨x, rfl, hx⟩
  · unfold f25
    simp only [joinK]
    rw [f26_eq (by omega) (by omega)]
    simp only [Option.bind_some]
    have hin : ∀ i, i < (lsN m).length → m.testBit ((lsN m).getD i 0) = true ∧ (((lsN m).getD i 0 : Nat) : Int) < p.Colours := by
      intro i hi
      have : (lsN m).getD i 0 ∈ lsN m := by simp [hi]
      have := (mem_lsN.1 this).2
      exact ⟨this, hm.in' _ this⟩
    have hl7 := lsN_len (m := m)
    have := loopI (F := fun n (s : Nat) i => f25_5 N (row p.Inks d) f25_c9 (lsI m) n (s : Int) i) (lsN m).length (fun i o => o < 128 ∧ ∀ j, o.testBit j = true ↔ m.testBit j = true ∨ ∃ q, q < i ∧ ik p d ((lsN m).getD q 0) = j)
      (fun r => ∃ m' : Nat, r = (m' : Int) ∧ PrintOf p d m m') (by
      intro n s i hI hi
      obtain ⟨hs, hI⟩ := hI
      obtain ⟨b1, b2⟩ := hin i hi
      obtain ⟨e1, e2⟩ := hp.ik hd b2
      have hj : ik p d ((lsN m).getD i 0) < 7 := by omega
      refine .inr ⟨s ||| 2 ^ ik p d ((lsN m).getD i 0), ⟨Nat.or_lt_two_pow (n := 7) hs (Nat.pow_lt_pow_right (by omega) hj), fun j => ?_⟩, ?_⟩
      · rw [Nat.testBit_or, Nat.testBit_two_pow, Bool.or_eq_true, hI j]
        constructor
        · rintro ((h | ⟨q, h3, h4⟩) | h)
          · exact .inl h
          · exact .inr ⟨q, by omega, h4⟩
          · exact .inr ⟨i, by omega, by simpa using h⟩
        · rintro (h | ⟨q, h3, h4⟩)
          · exact .inl (.inl h)
          · by_cases hq : q = i
            · subst hq; exact .inr (by simpa using h4)
            · exact .inl (.inr ⟨q, by omega, h4⟩)
      · conv => lhs; unfold f25_5 f25_5b
        have hl : ((lsI m).length : Int) = ((lsN m).length : Int) := by simp [lsI]
        rw [hl]
        simp only [show (i : Int) < ((lsN m).length : Int) by omega, decide_true, cond_true, ix_lsI hi, Option.bind_some]
        unfold f80
        rw [ix_en (t := p.Inks) (i := d) (by omega), ← e1]
        simp only [Option.bind_some, chk_nn]
        rw [sh8 _ (by omega), or8 (by omega) (pow8 (by omega)), W_nat (by omega)]) (by
      intro n s hI
      refine ⟨(s : Int), ?_, s, rfl, fun j => ?_⟩
      · conv => lhs; unfold f25_5 f25_5b
        have hl : ((lsI m).length : Int) = ((lsN m).length : Int) := by simp [lsI]
        rw [hl]; simp [f25_c9]
      · rw [hI.2 j]
        constructor
        · rintro (h | ⟨q, h3, h4⟩)
          · exact .inl h
          · exact .inr ⟨_, (hin q h3).1, h4⟩
        · rintro (h | ⟨c, h3, h4⟩)
          · exact .inl h
          · refine .inr ?_
            obtain ⟨q, hq⟩ := List.mem_iff_getElem?.1 (mem_lsN.2 ⟨by have := hm.in' c h3; omega, h3⟩)
            exact ⟨q, (List.getElem?_eq_some_iff.1 hq).1, by rw [List.getD_eq_getElem?_getD, hq]; exact h4⟩) N m 0 ⟨hlt, fun j => by simp⟩ (by omega) (by omega)
    obtain ⟨r, h3, m', rfl, h4⟩ := this
    exact ⟨m', h3, h4⟩
  · unfold f25 f48
    have hx0 : x = ((ik p d 0 : Nat) : Int) := by
      rw [(hp.ik hd (c := 0) (by simp; omega)).1]; exact (hx 0 (by omega)).symm
    have hi := (hp.ik hd (c := 0) (by simp; omega)).2
    subst hx0
    simp only [Option.bind_some, chk_nn]
    rw [sh8 _ (by omega), or8 (by omega) (pow8 (by omega))]
    refine ⟨_, rfl, fun j => ?_⟩
    rw [Nat.testBit_or, Nat.testBit_two_pow, Bool.or_eq_true]
    constructor
    · rintro (h | h)
      · exact .inl h
      · exact .inr ⟨0, hm.lo, by simpa using h⟩
    · rintro (h | ⟨c, h3, h4⟩)
      · exact .inl h
      · refine .inr ?_
        have hc := hm.in' c h3
        have e1 := hx c (by omega)
        have e2 := (hp.ik hd hc).1
        unfold en at e2
        simp only [decide_eq_true_eq]; omega
end Go.Vc
namespace Go.Vc
open Go.Proofs
set_option linter.unusedVariables false
set_option linter.unnecessarySimpa false
set_option linter.unusedSimpArgs false
set_option linter.unusedSimpArgs false
theorem f19_25 {p : Palette} (hp : Pal p) {N d m : Nat} (hd : d < p.Inks.length) (hm : Set8 p m) (hN : 2000 ≤ N) :
    ∃ k, f19 N p (d : Int) = some k ∧ InkIs k (row p.Inks d) ∧ ∃ m' : Nat, f25 N (m : Int) k = some (m' : Int) ∧ PrintOf p d m m' := by
  obtain ⟨k, hk, hk2⟩ := f19_eq hp (N := N) hd hN
  obtain ⟨m', h1, h2⟩ := f25_eq hp (N := N) hd hk2 hm hN
  exact ⟨k, hk, hk2, m', h1, h2⟩
theorem getD_app_l {α : Type} {l r : List α} {i : Nat} {z : α} (h : i < l.length) : (l ++ r).getD i z = l.getD i z := by
  rw [List.getD_eq_getElem?_getD, List.getD_eq_getElem?_getD, List.getElem?_append_left h]
theorem getD_app_r {α : Type} {l r : List α} {i : Nat} {z : α} (h : l.length ≤ i) : (l ++ r).getD i z = r.getD (i - l.length) z := by
  rw [List.getD_eq_getElem?_getD, List.getD_eq_getElem?_getD, List.getElem?_append_right h]
theorem f18_ok {p : Palette} (hp : Pal p) {N : Nat} {l : List Int} (hl : l.length ≤ 12) (h : ∀ x, x ∈ l → 0 ≤ x ∧ x < p.Inks.length) (hN : 20 ≤ N) : f18 N p l 12 = some 0 := by
  have i6 := hp.i6
  unfold f18
  rw [f24_ok hp hN]
  simp only [Option.bind_some, not_true_eq_false, decide_false, cond_false, show ¬ (12 : Int) < (l.length : Int) by omega, joinK]
  rw [loop_ex0 (F := f18_i602_i603000102_2 p l N (f18_i602_i603000102_c7 p)) (e := some 5) (k0 := f18_i602_i603000102_c7 p) (p := fun _ => False) l.length]
  · simp; rfl
  · intro n i hi
    rw [if_neg (by simp)]
    conv => lhs; unfold f18_i602_i603000102_2 f18_i602_i603000102_2b
    have := h (l.getD i 0) (by simp [hi])
    simp only [show (i : Int) < (l.length : Int) by omega, decide_true, cond_true, ix_getD hi, Option.bind_some, f27_eq]
    rw [show W ((p.Inks.length : Int) - 1) = (p.Inks.length : Int) - 1 from W_of (by omega) (by omega), show decide (0 ≤ l.getD i 0 ∧ l.getD i 0 ≤ (p.Inks.length : Int) - 1) = true by simp only [decide_eq_true_eq]; omega]
    simp only [Bool.not_true, cond_false]
    rw [W_nat (by omega)]
  · intro n; (conv => lhs; unfold f18_i602_i603000102_2 f18_i602_i603000102_2b); simp
  · omega
def colF (p : Palette) (c : Nat) (l : List (Int × Bool)) : Nat := l.foldl (fun c x => if x.2 = true then ik p x.1.toNat c else c) c
theorem f6_eq {p : Palette} (hp : Pal p) {N : Nat} {l : List Int} {b : List Bool} (hl : l.length ≤ 12) (hb : b.length = l.length) (h : ∀ x, x ∈ l → 0 ≤ x ∧ x < p.Inks.length) (hN : 2000 ≤ N) : f6 N p l b = some (((colF p 0 (l.zip b) : Nat) : Int), 0) := by
  have h2 := hp.c2
  unfold f6
  rw [f18_ok hp hl h (by omega)]
  simp only [Option.bind_some, not_true_eq_false, decide_false, cond_false, show ((b.length : Nat) : Int) = (l.length : Int) by omega, joinK]
  have key : ∀ n (c i : Nat), i ≤ l.length → l.length - i < n → (c : Int) < p.Colours → f6_8 p l b N f6_c13 n (c : Int) (i : Int) = some (((colF p c ((l.drop i).zip (b.drop i)) : Nat) : Int), 0) := by
    intro n
    induction n with
    | zero => intro c i _ h; omega
    | succ n ih =>
      intro c i hi hn hc
      conv => lhs; unfold f6_8 f6_8b
      by_cases e : i = l.length
      · subst e; simp [f6_c13, colF]
      · have hi : i < l.length := by omega
        have hx := h l[i] (List.getElem_mem hi)
        simp only [show (i : Int) < (l.length : Int) by omega, decide_true, cond_true, ix_get hi, ix_get (show i < b.length by omega), Option.bind_some]
        have ed : (l.drop i).zip (b.drop i) = (l[i], b[i]) :: (l.drop (i + 1)).zip (b.drop (i + 1)) := by
          rw [List.drop_eq_getElem_cons hi, List.drop_eq_getElem_cons (show i < b.length by omega), List.zip_cons_cons]
        rw [ed]
        cases hbi : b[i] with
        | false =>
          simp only [cond_false]
          rw [W_nat (by omega), ih c (i + 1) hi (by omega) hc]; rfl
        | true =>
          simp only [cond_true]
          have hd : l[i].toNat < p.Inks.length := by omega
          obtain ⟨e1, e2⟩ := hp.ik hd hc
          obtain ⟨k, hk, hk2⟩ := f19_eq hp (N := N) hd hN
          rw [show ((l[i].toNat : Nat) : Int) = l[i] by omega] at hk
          rw [hk]
          have hlen := hp.len _ hd
          simp only [Option.bind_some]
          rcases hk2 with rfl | ⟨x, rfl, hx2⟩
          · dsimp only
            unfold f80
            rw [ix_en (t := p.Inks) (i := l[i].toNat) (by omega), ← e1]
            simp only [Option.bind_some]
            rw [W_nat (by omega), ih _ (i + 1) hi (by omega) e2]; rfl
          · dsimp only
            unfold f48
            have := hx2 c (by omega)
            unfold en at e1
            rw [show x = ((ik p l[i].toNat c : Nat) : Int) by rw [e1, ← this]]
            simp only [Option.bind_some]
            rw [W_nat (by omega), ih _ (i + 1) hi (by omega) e2]; rfl
  have := key N 0 0 (by omega) (by omega) (by simp; omega)
  rw [show ((0 : Nat) : Int) = 0 from rfl] at this
  simpa using this
def ClosedP (p : Palette) (S : Nat → Prop) : Prop := ∀ c d, S c → d < p.Inks.length → S (ik p d c)
theorem f10_in {p : Palette} (hp : Pal p) {N : Nat} {s5 : Int} {r5 : Int → Int → Option (List Int × Int)} (hN : 2000 ≤ N) : ∀ n (o i : Nat), i ≤ p.Inks.length → p.Inks.length - i < n → Set8 p o →
    ∃ o' : Nat, f10_8 p N s5 r5 n (o : Int) (i : Int) = r5 (o' : Int) s5 ∧ Set8 p o' ∧ (∀ j, o.testBit j = true → o'.testBit j = true) ∧ (∀ S, ClosedP p S → (∀ j, o.testBit j = true → S j) → ∀ j, o'.testBit j = true → S j) ∧
      ∀ d c, i ≤ d → d < p.Inks.length → o.testBit c = true → o'.testBit (ik p d c) = true := by
  intro n
  induction n with
  | zero => intro o i _ h; omega
  | succ n ih =>
    intro o i hi hn ho
    have i6 := hp.i6
    conv => enter [1, o', 1, 1]; unfold f10_8 f10_8b
    by_cases e : i = p.Inks.length
    · subst e
      exact ⟨o, by simp, ho, fun _ h => h, fun _ _ h => h, fun d c h1 h2 => by omega⟩
    · have hi : i < p.Inks.length := by omega
      obtain ⟨k, hk, hk2, m, hm, hm2⟩ := f19_25 hp (N := N) hi ho hN
      obtain ⟨o', h1, h2, h3, h4, h5⟩ := ih m (i + 1) hi (by omega) (hm2.set hp hi ho)
      refine ⟨o', ?_, h2, fun j hj => h3 j ((hm2 j).2 (.inl hj)), fun S hS hS2 => h4 S hS fun j hj => ?_, fun d c q1 q2 q3 => ?_⟩
      · simp only [show (i : Int) < (p.Inks.length : Int) by omega, decide_true, cond_true, hk, Option.bind_some]
        rcases hk2 with rfl | ⟨x, rfl, _⟩ <;> (dsimp only; rw [hm]; simp only [Option.bind_some]; rw [W_nat (by omega)]; exact h1)
      · rcases (hm2 j).1 hj with q | ⟨c, q, rfl⟩
        · exact hS2 j q
        · exact hS _ _ (hS2 c q) hi
      · by_cases hd : d = i
        · subst hd; exact h3 _ ((hm2 _).2 (.inr ⟨c, q3, rfl⟩))
        · exact h5 d c (by omega) q2 ((hm2 c).2 (.inl q3))
structure EverIs (p : Palette) (s : Nat) : Prop where
  set : Set8 p s
  cl : ClosedP p fun c => s.testBit c = true
  least : ∀ S, ClosedP p S → S 0 → ∀ j, s.testBit j = true → S j
theorem sub_le {a b : Nat} (h : ∀ j, a.testBit j = true → b.testBit j = true) : a ≤ b := by
  have e : a ||| b = b := by
    apply Nat.eq_of_testBit_eq
    intro j
    rw [Nat.testBit_or]
    cases ha : a.testBit j
    · simp
    · simp [h j ha]
  rw [← e]; exact Nat.left_le_or
theorem f10_eq {p : Palette} (hp : Pal p) {N : Nat} (hN : 2000 ≤ N) : ∃ s, EverIs p s ∧ f10 N p = some (lsI s, 0) := by
  unfold f10
  rw [f24_ok hp (by omega)]
  simp only [Option.bind_some, not_true_eq_false, decide_false, cond_false, joinK]
  have key : ∀ n (s last : Nat), 128 - last < n → last ≤ 127 → Set8 p s → (∀ j, last.testBit j = true → s.testBit j = true) → (∀ d c, d < p.Inks.length → last.testBit c = true → s.testBit (ik p d c) = true) → (∀ S, ClosedP p S → S 0 → ∀ j, s.testBit j = true → S j) →
      ∃ s', EverIs p s' ∧ f10_5 p N (f10_c12 N) n (s : Int) (last : Int) = some (lsI s', 0) := by
    intro n
    induction n with
    | zero => intro s last h; omega
    | succ n ih =>
      intro s last hn hla hs h1 h2 h3
      have hlt := hs.lt hp
      conv => enter [1, s', 2, 1]; unfold f10_5 f10_5b
      by_cases e : s = last
      · subst e
        refine ⟨s, ⟨hs, fun c d hc hd => h2 d c hd hc, h3⟩, ?_⟩
        simp only [not_true_eq_false, decide_false, cond_false]
        unfold f10_c12
        rw [f26_eq (by omega) (by omega)]; rfl
      · have hle := sub_le h1
        simp only [show ¬ (s : Int) = (last : Int) by omega, not_false_eq_true, decide_true, cond_true]
        obtain ⟨o, q1, q2, q3, q4, q5⟩ := f10_in hp (N := N) (s5 := (s : Int)) (r5 := f10_5 p N (f10_c12 N) n) hN N s 0 (by omega) (by have := hp.i6; omega) hs
        obtain ⟨s', w1, w2⟩ := ih o s (by omega) (by omega) q2 q3 (fun d c hd hc => q5 d c (by omega) hd hc) (fun S hS h0 => q4 S hS (h3 S hS h0))
        exact ⟨s', w1, q1.trans w2⟩
  have := key N 1 0 (by omega) (by omega) (Set8.one hp) (fun j hj => by simp at hj) (fun d c hd hc => by simp at hc) (fun S hS h0 j hj => by
    rw [show (1 : Nat) = 2 ^ 0 from rfl, Nat.testBit_two_pow] at hj
    simp at hj; subst hj; exact h0)
  exact this
theorem look_set {κ ν : Type} [DecidableEq κ] {z v : ν} {k y : κ} : ∀ {m : List (κ × ν)}, (lookK z y (setK k v m)).1 = if y = k then v else (lookK z y m).1
  | [] => by
    simp only [setK, lookK]
    by_cases e : k = y
    · rw [if_pos e, if_pos e.symm]
    · rw [if_neg e, if_neg (fun h => e h.symm)]
  | p :: r => by
    simp only [setK]
    by_cases e : p.1 = k
    · rw [if_pos e]
      simp only [lookK]
      by_cases e2 : k = y
      · rw [if_pos e2, if_pos e2.symm]
      · rw [if_neg e2, if_neg (fun h => e2 h.symm), if_neg (fun h => e2 (by rw [← e, h]))]
    · rw [if_neg e]
      simp only [lookK]
      by_cases e2 : p.1 = y
      · rw [if_pos e2, if_neg (fun h => e (by rw [e2, h])), if_pos e2]
      · rw [if_neg e2, look_set, if_neg e2]
def NoMet (c : Nat) (m : List (Int × Bool)) : Prop := ∀ x : Nat, x.testBit c = true → (lookK false (x : Int) m).1 = false
def First (c i : Nat) (X : List Int) : Prop := i < X.length ∧ (∃ x : Nat, X.getD i 0 = (x : Int) ∧ x.testBit c = true) ∧ ∀ j, j < i → ∃ x : Nat, X.getD j 0 = (x : Int) ∧ x.testBit c = false
theorem f28_in {p : Palette} (hp : Pal p) {N a x2 c : Nat} {x3 : List Int} {r4 : List Int → List (List Int) → List (Int × Bool) → Option (List Int × Bool)} (hx : Set8 p x2) (hx3 : x3.length ≤ 100) (hN : 2000 ≤ N) :
    ∀ n (v7 : List Int) (v8 : List (List Int)) (i : Nat) (m : List (Int × Bool)), i ≤ p.Inks.length → p.Inks.length - i < n → v7.length = v8.length → v7.length + (p.Inks.length - i) ≤ 500 →
    ∃ (X : List Int) (Y : List (List Int)) (m' : List (Int × Bool)), f28_10 p (a : Int) N r4 (x2 : Int) x3 n v7 v8 (i : Int) m = r4 (v7 ++ X) (v8 ++ Y) m' ∧ X.length = Y.length ∧ X.length ≤ p.Inks.length - i ∧
      (∀ x, x ∈ X → ∃ q : Nat, x = (q : Int) ∧ Set8 p q) ∧ (∀ y, y ∈ Y → y.length = x3.length + 1) ∧
      (NoMet c m → (∃ d, i ≤ d ∧ d < p.Inks.length ∧ ik p d 0 = c) → ∃ q, First c q X) := by
  intro n
  induction n with
  | zero => intro v7 v8 i m _ h; omega
  | succ n ih =>
    intro v7 v8 i m hi hn hv hb
    have i6 := hp.i6
    by_cases e : i = p.Inks.length
    · subst e
      refine ⟨[], [], m, ?_, rfl, by simp, by simp, by simp, fun _ ⟨d, h1, h2, _⟩ => by omega⟩
      conv => lhs; unfold f28_10 f28_10b
      simp
    · have hi : i < p.Inks.length := by omega
      obtain ⟨k, hk, hk2, w, hw, hw2⟩ := f19_25 hp (N := N) hi hx hN
      have hws := hw2.set hp hi hx
      have step : f28_10 p (a : Int) N r4 (x2 : Int) x3 (n + 1) v7 v8 (i : Int) m = f28_c13 p (a : Int) (x2 : Int) x3 v7 v8 (i : Int) m (f28_10 p (a : Int) N r4 (x2 : Int) x3 n) (w : Int) := by
        conv => lhs; unfold f28_10 f28_10b
        simp only [show (i : Int) < (p.Inks.length : Int) by omega, decide_true, cond_true, joinK, hk, Option.bind_some]
        rcases hk2 with rfl | ⟨x, rfl, _⟩ <;> (dsimp only; rw [hw]; simp only [Option.bind_some])
      rw [step]
      unfold f28_c13
      simp only [Option.bind_some]
      rw [W_nat (show i < 9223372036854775807 by omega)]
      cases hl : (lookK false (w : Int) m).1 with
      | true =>
        simp only [Bool.not_true, cond_false]
        obtain ⟨X, Y, m', h1, h2, h3, h4, h5, h6⟩ := ih v7 v8 (i + 1) m hi (by omega) hv (by omega)
        refine ⟨X, Y, m', h1, h2, by omega, h4, h5, fun hm ⟨d, q1, q2, q3⟩ => h6 hm ⟨d, ?_, q2, q3⟩⟩
        by_cases hd : d = i
        · subst hd
          have := hm w ((hw2 c).2 (.inr ⟨0, hx.lo, q3⟩))
          rw [hl] at this; cases this
        · omega
      | false =>
        simp only [Bool.not_false, cond_true]
        rw [app_ok (by simp; omega) (by simp; omega)]
        simp only [Option.bind_some]
        rw [show subC x3 0 (x3.length : Int) = some x3 by
          unfold subC sub
          rw [if_pos ⟨by omega, by omega, by omega⟩]; simp]
        simp only [Option.bind_some]
        rw [show appC 8 x3 [(i : Int)] = some (x3 ++ [(i : Int)]) from app_ok (by simp; omega) (by simp; omega)]
        simp only [Option.bind_some]
        rw [app_ok (by simp; omega) (by simp; omega)]
        simp only [Option.bind_some]
        obtain ⟨X, Y, m', h1, h2, h3, h4, h5, h6⟩ := ih (v7 ++ [(w : Int)]) (v8 ++ [x3 ++ [(i : Int)]]) (i + 1) (setK (w : Int) true m) hi (by omega) (by simp [hv]) (by simp; omega)
        refine ⟨(w : Int) :: X, (x3 ++ [(i : Int)]) :: Y, m', ?_, by simp [h2], by simp; omega, ?_, ?_, ?_⟩
        · rw [h1]; simp
        · intro x hx; rcases List.mem_cons.1 hx with rfl | hx
          · exact ⟨w, rfl, hws⟩
          · exact h4 x hx
        · intro y hy; rcases List.mem_cons.1 hy with rfl | hy
          · simp
          · exact h5 y hy
        · rintro hm ⟨d, q1, q2, q3⟩
          cases hwc : w.testBit c with
          | true => exact ⟨0, by simp, ⟨w, by simp, hwc⟩, fun j hj => by omega⟩
          | false =>
            have hd : d ≠ i := by
              rintro rfl
              have := (hw2 c).2 (.inr ⟨0, hx.lo, q3⟩)
              rw [hwc] at this; cases this
            obtain ⟨q, w1, ⟨x, w2, w3⟩, w4⟩ := h6 (fun x hx' => by
              rw [look_set, if_neg]
              · exact hm x hx'
              · intro hh
                have : x = w := by omega
                subst this; rw [hwc] at hx'; cases hx') ⟨d, by omega, q2, q3⟩
            refine ⟨q + 1, by simp; omega, ⟨x, by simpa using w2, w3⟩, fun j hj => ?_⟩
            cases j with
            | zero => exact ⟨w, by simp, hwc⟩
            | succ j =>
              obtain ⟨y, y1, y2⟩ := w4 j (by omega)
              exact ⟨y, by simpa using y1, y2⟩
theorem want8 {m c : Nat} (hm : m < 256) (hc : c < 8) : decide (bitsI .and .u8 (m : Int) ((2 ^ c : Nat) : Int) = ((2 ^ c : Nat) : Int)) = m.testBit c := by
  rw [and8 hm (pow8 hc)]
  have e : m &&& 2 ^ c = 2 ^ c ↔ m.testBit c = true := by
    constructor
    · intro h
      have := congrArg (fun x => x.testBit c) h
      simp only [Nat.testBit_and, Nat.testBit_two_pow, decide_true, Bool.and_true] at this
      exact this
    · intro h
      apply Nat.eq_of_testBit_eq
      intro j
      rw [Nat.testBit_and, Nat.testBit_two_pow]
      by_cases hj : c = j
      · subst hj; simp [h]
      · simp [hj]
  cases hb : m.testBit c
  · simp only [decide_eq_false_iff_not]
    intro hh
    have := e.1 (by omega)
    rw [hb] at this; cases this
  · simp only [decide_eq_true_eq]
    have := e.2 hb
    omega
theorem sub_tail {α : Type} {x : α} {l : List α} : subW (x :: l) 1 ((x :: l).length : Int) = some l := by
  unfold subW sub
  rw [if_pos ⟨by omega, by simp; omega, by simp⟩]; simp
theorem f28_eq {p : Palette} (hp : Pal p) {N c : Nat} (hc : (c : Int) < p.Colours) (hi : c ≠ 0 → ∃ d, d < p.Inks.length ∧ ik p d 0 = c) (hN : 2000 ≤ N) :
    ∃ l : List Int, l.length = min c 1 ∧ f28 N p ((2 ^ c : Nat) : Int) = some (l, true) := by
  have h7 := hp.c7; have i6 := hp.i6
  obtain ⟨N, rfl⟩ : ∃ M, N = M + 1 := ⟨N - 1, by omega⟩
  unfold f28
  simp only [Option.bind_some, joinK]
  conv => enter [1, l, 2, 1]; unfold f28_4 f28_4b
  have w1 := want8 (m := 1) (c := c) (by omega) (by omega)
  rw [show ((1 : Nat) : Int) = 1 from rfl] at w1
  simp only [List.length_singleton, show (0 : Int) < ((1 : Nat) : Int) by omega, decide_true, cond_true, show ix [(1 : Int)] 0 = some 1 from rfl, show ix [([] : List Int)] 0 = some [] from rfl, show subW [(1 : Int)] 1 ((1 : Nat) : Int) = some [] from rfl, show subW [([] : List Int)] 1 ((1 : Nat) : Int) = some [] from rfl, Option.bind_some, w1]
  by_cases h0 : c = 0
  · subst h0
    exact ⟨[], rfl, rfl⟩
  · have hf : (1 : Nat).testBit c = false := by
      rw [show (1 : Nat) = 2 ^ 0 from rfl, Nat.testBit_two_pow]; simp; omega
    rw [hf]
    simp only [cond_false]
    obtain ⟨d0, hd0, hd1⟩ := hi h0
    have rounds : ∀ (n i : Nat) (v7 : List Int) (v8 : List (List Int)) (m : List (Int × Bool)), i < n → v7.length = v8.length → v7.length + 6 * i ≤ 100 → First c i v7 → (∀ x, x ∈ v7 → ∃ q : Nat, x = (q : Int) ∧ Set8 p q) → (∀ j, j < v8.length → (v8.getD j []).length ≤ i + 10 ∧ (j ≤ i → (v8.getD j []).length = 1) ∧ (v8.getD j []).length ≤ 2) →
        ∃ l : List Int, l.length = 1 ∧ f28_4 p ((2 ^ c : Nat) : Int) (N + 1) f28_c17 n v7 v8 m = some (l, true) := by
      intro n
      induction n with
      | zero => intro i _ _ _ h; omega
      | succ n ih =>
        intro i v7 v8 m hin hv hb hF hS hY
        obtain ⟨hF1, ⟨x, hF2, hF3⟩, hF4⟩ := hF
        cases v7 with
        | nil => simp at hF1
        | cons a v7 =>
          cases v8 with
          | nil => simp at hv
          | cons y v8 =>
            obtain ⟨q, rfl, hq⟩ := hS a (by simp)
            have hqlt := hq.lt hp
            have hy0 := hY 0 (by simp)
            simp only [List.getD_cons_zero] at hy0
            conv => enter [1, l, 2, 1]; unfold f28_4 f28_4b
            simp only [show (0 : Int) < (((q : Int) :: v7).length : Int) by simp, decide_true, cond_true, show ix ((q : Int) :: v7) 0 = some (q : Int) from rfl, show ix (y :: v8) 0 = some y from rfl, sub_tail, Option.bind_some, want8 (m := q) (c := c) (by omega) (by omega)]
            cases i with
            | zero =>
              have : x = q := by simp at hF2; omega
              subst this
              rw [hF3]
              exact ⟨y, hy0.2.1 (by omega), rfl⟩
            | succ i =>
              obtain ⟨x0, g1, g2⟩ := hF4 0 (by omega)
              have : x0 = q := by simp at g1; omega
              subst this
              rw [g2]
              simp only [cond_false]
              obtain ⟨X, Y, m', e1, e2, e3, e4, e5, _⟩ := f28_in hp (N := N + 1) (a := 2 ^ c) (c := c) (x3 := y) (r4 := f28_4 p ((2 ^ c : Nat) : Int) (N + 1) f28_c17 n) hq (by omega) hN (N + 1) v7 v8 0 m (by omega) (by omega) (by simpa using hv) (by simp at hb; omega)
              rw [show ((0 : Nat) : Int) = 0 from rfl] at e1
              have hv' : v7.length = v8.length := by simpa using hv
              simp only [List.length_cons] at hF1 hb
              obtain ⟨l, l1, l2⟩ := ih i (v7 ++ X) (v8 ++ Y) m' (by omega) (by simp [e2, hv']) (by simp; omega) ⟨by simp; omega, ⟨x, by
                  rw [getD_app_l (by omega)]; simpa using hF2, hF3⟩, fun j hj => by
                  obtain ⟨z, z1, z2⟩ := hF4 (j + 1) (by omega)
                  exact ⟨z, by rw [getD_app_l (by omega)]; simpa using z1, z2⟩⟩ (fun z hz => by
                  rcases List.mem_append.1 hz with hz | hz
                  · exact hS z (by simp [hz])
                  · exact e4 z hz) (fun j hj => by
                  by_cases hjl : j < v8.length
                  · rw [getD_app_l hjl]
                    have := hY (j + 1) (by simp; omega)
                    simp only [List.getD_cons_succ] at this
                    exact ⟨by omega, fun hh => this.2.1 (by omega), this.2.2⟩
                  · have hyy : (v8 ++ Y).getD j [] ∈ Y := by
                      rw [getD_app_r (by omega)]
                      have : j - v8.length < Y.length := by simp at hj; omega
                      simp [this]
                    have hlen := e5 _ hyy
                    have hy1 := hy0.2.1 (by omega)
                    exact ⟨by omega, fun hh => by omega, by omega⟩)
              exact ⟨l, l1, e1.trans l2⟩
    obtain ⟨X, Y, m', e1, e2, e3, e4, e5, e6⟩ := f28_in hp (N := N + 1) (a := 2 ^ c) (c := c) (x3 := []) (r4 := f28_4 p ((2 ^ c : Nat) : Int) (N + 1) f28_c17 N) (Set8.one hp) (by simp) hN (N + 1) [] [] 0 (setK (1 : Int) true []) (by omega) (by omega) rfl (by simp; omega)
    obtain ⟨i, hF⟩ := e6 (fun x hx => by
      rw [look_set, if_neg (by rintro hh; have : x = 1 := by omega
                               subst this; rw [hf] at hx; cases hx)]; rfl) ⟨d0, by omega, hd0, hd1⟩
    have hil := hF.1
    obtain ⟨l, l1, l2⟩ := rounds N i X Y m' (by omega) e2 (by omega) hF e4 (fun j hj => by
      have : Y.getD j [] ∈ Y := by simp [hj]
      have := e5 _ this
      simp only [List.length_nil] at this
      exact ⟨by omega, fun _ => by omega, by omega⟩)
    refine ⟨l, by omega, ?_⟩
    have := e1.trans l2
    simpa using this
theorem f11_eq {p : Palette} (hp : Pal p) {N c : Nat} (hc : (c : Int) < p.Colours) (hi : c ≠ 0 → ∃ d, d < p.Inks.length ∧ ik p d 0 = c) (hN : 2000 ≤ N) : f11 N p (c : Int) = some (((min c 1 : Nat) : Int), 0) := by
  have h7 := hp.c7
  unfold f11
  rw [f24_ok hp (by omega), f27_eq]
  simp only [Option.bind_some, not_true_eq_false, decide_false, cond_false]
  rw [show W (p.Colours - 1) = p.Colours - 1 from W_of (by omega) (by omega), show decide (0 ≤ (c : Int) ∧ (c : Int) ≤ p.Colours - 1) = true by simp; omega, chk_nn, sh8 c (by omega)]
  simp only [Bool.not_true, cond_false, Option.bind_some]
  obtain ⟨l, h1, h2⟩ := f28_eq hp hc hi hN
  rw [h2]
  simp [h1]
end Go.Vc
namespace Go.Vc
open Go.Proofs
set_option linter.unusedVariables false
set_option linter.unnecessarySimpa false
set_option linter.unusedSimpArgs false
set_option linter.unusedSimpArgs false
set_option maxRecDepth 100000
theorem f12_any (n : Nat) : f12 (n + 200) = some true := by kernel_rfl
def colT (t : List (List Int)) (d k : Nat) : List Int := (List.range k).map fun s => en t s d
def inkT (t : List (List Int)) (k : Nat) : List (List Int) := (List.range k).map fun d => colT t d t.length
theorem colT_succ {t : List (List Int)} {d k : Nat} : colT t d (k + 1) = colT t d k ++ [en t k d] := by simp [colT, List.range_succ]
theorem inkT_succ {t : List (List Int)} {k : Nat} : inkT t (k + 1) = inkT t k ++ [colT t k t.length] := by simp [inkT, List.range_succ]
theorem colT_len {t : List (List Int)} {d k : Nat} : (colT t d k).length = k := by simp [colT]
theorem inkT_len {t : List (List Int)} {k : Nat} : (inkT t k).length = k := by simp [inkT]
def palT (t : List (List Int)) : Palette := Palette.mk (t.length : Int) (inkT t t.length)
theorem inkT_row {t : List (List Int)} {d : Nat} (hd : d < t.length) : row (inkT t t.length) d = colT t d t.length := by simp [row, inkT, hd]
theorem inkT_en {t : List (List Int)} {d s : Nat} (hd : d < t.length) (hs : s < t.length) : en (inkT t t.length) d s = en t s d := by
  unfold en; rw [inkT_row hd]
  simp [colT, hs, en]
theorem palT_ok {t : List (List Int)} (h : Lat t) (h6 : t.length ≤ 6) : Pal (palT t) := by
  have h2 := h.two
  refine ⟨by simp [palT]; omega, by simp [palT]; omega, by simp [palT, inkT_len]; omega, by simp [palT, inkT_len]; omega, fun d hd => ?_, fun d c hd hc => ?_⟩
  · simp only [palT, inkT_len] at hd ⊢
    rw [inkT_row hd, colT_len]
  · simp only [palT, inkT_len] at hd hc ⊢
    rw [inkT_en hd (by omega)]
    exact h.lo c d (by omega) hd
theorem palT_ik {t : List (List Int)} {d c : Nat} (hd : d < t.length) (hc : c < t.length) : ik (palT t) d c = (en t c d).toNat := by
  unfold ik palT; rw [inkT_en hd hc]
theorem palT_one {t : List (List Int)} (h : Lat t) {c : Nat} (hc : c < t.length) : ∃ d, d < (palT t).Inks.length ∧ ik (palT t) d 0 = c := by
  have h2 := h.two
  obtain ⟨d, hd, e⟩ := h.digit (s := 0) (post := []) (by omega) (fun x hx => by cases hx) (y := c) hc
  refine ⟨d, by simp [palT, inkT_len, hd], ?_⟩
  rw [palT_ik hd (by omega)]; exact e
theorem colF_snoc {p : Palette} {c : Nat} {l : List Int} {b : List Bool} {x : Int} {y : Bool} (h : l.length = b.length) : colF p c ((l ++ [x]).zip (b ++ [y])) = if y = true then ik p x.toNat (colF p c (l.zip b)) else colF p c (l.zip b) := by
  rw [List.zip_append h]; simp [colF]
structure InvT (t : List (List Int)) (i : Nat) (l d : List Int) (b : List Bool) : Prop where
  nl : l.length = i
  nb : b.length = i
  ni : i ≤ 10
  sq : Dig t l
  dg : Dig t d
  nd : d.length ≤ i
  eq : colF (palT t) 0 (l.zip b) = Vc.dl t 0 d
theorem f3_stones {t : List (List Int)} (h : Lat t) (h6 : t.length ≤ 6) {a0 a4 : Int} {a3 : List Int} {b3 : List (List Int)} {k2 : List Int → List Int → List Bool → Option Bool} (hw : W ((2 : Int) + Int.tmod a0 5) = (t.length : Int)) (ha : By a3) :
    ∀ n i l d b, 10 - i < n → InvT t i l d b → ∃ i' l' d' b', InvT t i' l' d' b' ∧ f3_17 a0 a3 a4 t b3 k2 n l d b (i : Int) = k2 l' d' b' := by
  have h2 := h.two
  intro n
  induction n with
  | zero => intro i _ _ _ h; omega
  | succ n ih =>
    intro i l d b hn hI
    have hl := hI.nl; have hb := hI.nb; have hi10 := hI.ni; have hdl := hI.nd
    conv => enter [1, i', 1, l', 1, d', 1, b', 2, 1]; unfold f3_17 f3_17b
    rw [hw]
    by_cases c1 : (i : Int) < (a3.length : Int)
    · by_cases c2 : i < 10
      · obtain ⟨x, hx⟩ := ha.get (show i < a3.length by omega)
        have hlt := Nat.mod_lt x (show 0 < t.length by omega)
        simp only [c1, show (i : Int) < 10 by omega, decide_true, cond_true, hx, Option.bind_some, chk_pos (show 0 < t.length by omega), tmod_nat, chk_nn]
        rw [app_ok (by simp; omega) (by simp; omega)]
        simp only [Option.bind_some]
        rw [app_ok (by simp; omega) (by simp; omega)]
        simp only [Option.bind_some]
        generalize hy : decide (bitsI .and .u16 (Int.fdiv a4 (2 ^ (min (Int.toNat (i : Int)) 16))) (1 : Int) = (1 : Int)) = y
        rw [show ix (b ++ [y]) (i : Int) = some y by rw [ix_nat, ← hb]; simp]
        simp only [Option.bind_some]
        have hc := colF_snoc (p := palT t) (c := 0) (x := ((x % t.length : Nat) : Int)) (y := y) (show l.length = b.length by omega)
        have hq : Dig t (l ++ [((x % t.length : Nat) : Int)]) := Dig.append.2 ⟨hI.sq, fun z hz => by simp at hz; omega⟩
        cases y with
        | true =>
          simp only [cond_true]
          rw [app_ok (by simp; omega) (by simp; omega)]
          simp only [Option.bind_some]
          rw [W_nat (by omega)]
          refine ih (i + 1) _ _ _ (by omega) ⟨by simp [hl], by simp [hb], by omega, hq, Dig.append.2 ⟨hI.dg, fun z hz => by simp at hz; omega⟩, by simp; omega, ?_⟩
          rw [hc, if_pos rfl, hI.eq, dl_append, dl_cons, dl_nil, palT_ik (by omega) (dl_lt h.toSq (by omega) hI.dg)]
        | false =>
          simp only [cond_false]
          rw [W_nat (by omega)]
          refine ih (i + 1) _ _ _ (by omega) ⟨by simp [hl], by simp [hb], by omega, hq, hI.dg, by omega, ?_⟩
          rw [hc, if_neg (by simp), hI.eq]
      · simp only [c1, show ¬ (i : Int) < 10 by omega, decide_true, decide_false, cond_true, cond_false]
        exact ⟨i, l, d, b, hI, rfl⟩
    · simp only [c1, decide_false, cond_false]
      exact ⟨i, l, d, b, hI, rfl⟩
theorem f3_inks {t : List (List Int)} (h : Lat t) (h6 : t.length ≤ 6) {N : Nat} {a0 a4 : Int} {a3 : List Int} {k3 : List (List Int) → Option Bool} (hw : W ((2 : Int) + Int.tmod a0 5) = (t.length : Int)) (hN : 20 ≤ N) :
    ∀ n i, i ≤ t.length → t.length - i < n → f3_5 a0 a3 a4 N t k3 n (i : Int) (inkT t i) = k3 (inkT t t.length) := by
  intro n
  induction n with
  | zero => intro i _ h; omega
  | succ n ih =>
    intro i hi hn
    conv => lhs; unfold f3_5 f3_5b
    rw [hw]
    by_cases e : i = t.length
    · subst e; simp
    · have hi : i < t.length := by omega
      simp only [show (i : Int) < (t.length : Int) by omega, decide_true, cond_true, joinK]
      obtain ⟨e1, e2⟩ := loop_inv0 (F := f3_9 a0 a3 a4 t (i : Int) (inkT t i) (f3_c13 a0 a3 a4 t (i : Int) (inkT t i) (f3_c6 a0 a3 a4 t (i : Int) (f3_5 a0 a3 a4 N t k3 n)))) (k := f3_c13 a0 a3 a4 t (i : Int) (inkT t i) (f3_c6 a0 a3 a4 t (i : Int) (f3_5 a0 a3 a4 N t k3 n))) (fun s j => s ++ [en t j i]) (fun j s => s = colT t i j) t.length (by
        intro m s j hj hs
        subst hs
        conv => lhs; unfold f3_9 f3_9b
        simp only [show (j : Int) < (t.length : Int) by omega, decide_true, cond_true, ix_row hj, Option.bind_some, h.ix hj hi]
        rw [app_ok (by simp [colT_len]; omega) (by simp [colT_len]; omega)]
        simp only [Option.bind_some]
        rw [W_nat (by omega)]) (by intro s j hj hs; rw [hs, colT_succ]) (by intro m s; (conv => lhs; unfold f3_9 f3_9b); simp) (n := N) (s := []) (by omega) rfl
      rw [e1, e2]
      unfold f3_c13 f3_c6
      rw [app_ok (by simp [inkT_len]; omega) (by simp [inkT_len]; omega)]
      simp only [Option.bind_some]
      rw [W_nat (by omega), ← inkT_succ]
      exact ih (i + 1) hi (by omega)
theorem f3_true {a0 a4 : Int} {a1 a2 a3 : List Int} (h0 : 0 ≤ a0 ∧ a0 ≤ 255) (h1 : By a1) (h2 : By a2) (h3 : By a3) : f3 2200 a0 a1 a2 a3 a4 = some true := by
  obtain ⟨b, rfl⟩ : ∃ b : Nat, a0 = (b : Int) := ⟨a0.toNat, by omega⟩
  have hlt := Nat.mod_lt b (show 0 < 5 by omega)
  have hw : W ((2 : Int) + Int.tmod (b : Int) 5) = ((2 + b % 5 : Nat) : Int) := by
    have := tmod_nat b 5
    rw [show ((5 : Nat) : Int) = 5 from rfl] at this
    rw [this]; exact W_of (by omega) (by omega)
  obtain ⟨r, m, hP, hf5⟩ := f5_eq (N := 2200) h1 h2 (n := 2 + b % 5) (by omega) (by omega)
  unfold f3
  rw [hw, hf5]
  simp only [Option.bind_some, joinK]
  have hL := tab_lat hP
  have hS := tab_small hP
  have hlen : (tabR (2 + b % 5) r (rng (2 + b % 5)) m (2 + b % 5)).length = 2 + b % 5 := tabR_len
  generalize tabR (2 + b % 5) r (rng (2 + b % 5)) m (2 + b % 5) = t at *
  rw [← hlen] at hw
  have h6 : t.length ≤ 6 := by omega
  have ht2 := hL.two
  have hp := palT_ok hL h6
  have hin := f3_inks hL h6 (a3 := a3) (a4 := a4) (N := 2200) (k3 := f3_c14 (b : Int) a3 a4 2200 t) hw (by omega) 2200 0 (by omega) (by omega)
  rw [show ((0 : Nat) : Int) = 0 from rfl, show inkT t 0 = [] from rfl] at hin
  rw [hin]
  unfold f3_c14
  simp only [joinK]
  obtain ⟨i, l, d, v, hI, e⟩ := f3_stones hL h6 (a4 := a4) (b3 := inkT t t.length) (k2 := f3_c23 (b : Int) 2200 t (inkT t t.length)) hw h3 2200 0 [] [] [] (by omega) ⟨rfl, rfl, by omega, (fun x hx => by cases hx), (fun x hx => by cases hx), by simp, rfl⟩
  rw [show ((0 : Nat) : Int) = 0 from rfl] at e
  rw [e]
  have hl := hI.nl; have hb := hI.nb; have hi10 := hI.ni; have hdl := hI.nd
  have hdn : dl t 0 d < t.length := dl_lt hL.toSq (by omega) hI.dg
  unfold f3_c23
  rw [hw, show Palette.mk (t.length : Int) (inkT t t.length) = palT t from rfl]
  have hrange : ∀ x, x ∈ l → 0 ≤ x ∧ x < (palT t).Inks.length := fun x hx => by have := hI.sq x hx; simpa [palT, inkT_len] using this
  rw [f6_eq hp (by omega) (by omega) hrange (by omega), f7_eq hS (by omega) (by omega), if_pos (digT_ok.2 ⟨hL, by omega, hI.dg⟩), hI.eq]
  simp only [Option.bind_some, not_true_eq_false, decide_false, cond_false]
  obtain ⟨y, hy, hf8, hy0⟩ := f8_eq (N := 2200) (l := d) hS hL (by omega) hI.dg (by omega)
  rw [hf8]
  simp only [Option.bind_some]
  rw [app_ok (by simp; omega) (by simp; omega)]
  simp only [Option.bind_some, List.nil_append]
  rw [app_ok (by simp; omega) (by simp; omega)]
  simp only [Option.bind_some]
  rw [app_ok (by simp; omega) (by simp; omega)]
  simp only [Option.bind_some, List.nil_append]
  rw [app_ok (by simp; omega) (by simp; omega)]
  simp only [Option.bind_some]
  rw [f6_eq hp (by simp; omega) (by simp; omega) (fun x hx => by
    rcases List.mem_append.1 hx with hx | hx
    · exact hrange x hx
    · simp at hx; subst hx; simp [palT, inkT_len]; omega) (by omega), colF_snoc (by omega), if_pos rfl, hI.eq, Int.toNat_natCast, palT_ik hy hdn, hy0]
  simp only [Option.bind_some, joinK, not_true_eq_false, decide_false, cond_false, Int.toNat_zero, show ((0 : Nat) : Int) = 0 from rfl]
  have hk1 : f3_c31 (b : Int) 2200 (inkT t t.length) = some true := by
    unfold f3_c31
    rw [hw, show Palette.mk (t.length : Int) (inkT t t.length) = palT t from rfl]
    obtain ⟨s, hs, hf10⟩ := f10_eq hp (N := 2200) (by omega)
    rw [hf10]
    simp only [Option.bind_some, not_true_eq_false, decide_false, cond_false, joinK]
    have hall : ∀ c, s.testBit c = true ↔ c < t.length := by
      intro c
      constructor
      · intro hc
        have := hs.set.in' c hc
        simp [palT] at this; omega
      · intro hc
        obtain ⟨d, hd, e⟩ := palT_one hL hc
        have := hs.cl 0 d hs.set.lo hd
        rw [e] at this; exact this
    rw [show ((lsI s).length : Int) = (t.length : Int) by unfold lsI; rw [lsN_full (by omega) hall]; simp]
    simp only [not_true_eq_false, decide_false, cond_false]
    have hk0 : f3_c40 2200 = some true := by
      unfold f3_c40
      rw [f12_any 2000]; rfl
    rw [loop_ex0 (F := f3_35 (b : Int) 2200 (inkT t t.length) (f3_c40 2200)) (e := some false) (k0 := f3_c40 2200) (p := fun _ => False) t.length]
    · simpa using hk0
    · intro n c hc
      rw [if_neg (by simp)]
      conv => lhs; unfold f3_35 f3_35b
      rw [hw, show Palette.mk (t.length : Int) (inkT t t.length) = palT t from rfl, f11_eq hp (c := c) (by simp [palT]; omega) (fun _ => palT_one hL hc) (by omega)]
      simp only [show (c : Int) < (t.length : Int) by omega, decide_true, cond_true, Option.bind_some, not_true_eq_false, decide_false, cond_false, show ((min c 1 : Nat) : Int) = min (c : Int) 1 by omega]
      rw [W_nat (by omega)]
    · intro n; (conv => lhs; unfold f3_35 f3_35b); rw [hw]; simp
    · omega
  by_cases hd0 : d.length = 0
  · simp only [show ¬ (0 : Int) < (d.length : Int) by omega, decide_false, cond_false, hk1]
  · simp only [show (0 : Int) < (d.length : Int) by omega, decide_true, cond_true]
    rw [app_ok (by simp; omega) (by simp; omega)]
    simp only [Option.bind_some, List.nil_append]
    rw [app_ok (by simp; omega) (by simp; omega)]
    simp only [Option.bind_some]
    rw [f9_eq hS (by simp; omega) (by omega)]
    have hcod : codT t (d ++ [(y : Int)]) = 0 := codT_ok.2 ⟨hL, by simp; omega, by simp; omega, Dig.append.2 ⟨hI.dg, fun z hz => by simp at hz; omega⟩⟩
    have hdl0 : dl t 0 (d ++ [(y : Int)]) = 0 := by
      rw [dl_append, dl_cons, dl_nil, Int.toNat_natCast, hy0]; rfl
    unfold rightT
    rw [if_pos hcod, if_pos hdl0]
    simp [hk1]
end Go.Vc
namespace Go.Vc
set_option linter.unusedVariables false
set_option linter.unnecessarySimpa false
set_option linter.unusedSimpArgs false
set_option linter.unusedSimpArgs false
abbrev tB : Ty := .int .u8
abbrev tBytes : Ty := .slice tB false 1
abbrev tU : Ty := .int .u16
def u8In (n : Int) : Prop := 0 ≤ n ∧ n ≤ 255
theorem tB_of {ds : List D} (h : tB.has ds) : ∃ n, ds = [u8N n] ∧ u8In n := by
  simp only [tB, Ty.has] at h
  obtain ⟨n, rfl, h⟩ := h
  exact ⟨n, rfl, by simpa [IntKind.min, IntKind.max, IntKind.signed, IntKind.bits, u8In] using h⟩
theorem bytes_of {ds : List D} (h : tBytes.has ds) : ∃ l : List Int, ds = [sl_u8N l] ∧ ∀ x, x ∈ l → u8In x := by
  obtain ⟨l, h1, _, h3⟩ := slice_of (d := u8N) (p := u8In) (fun cs hc => by
    obtain ⟨n, rfl, h⟩ := tB_of hc
    exact ⟨n, rfl, h⟩) h
  exact ⟨l, h1, h3⟩
theorem tB_ofD {x : D} (h : tB.hasD x) : ∃ n, x = u8N n ∧ u8In n := by
  obtain ⟨n, h1, h2⟩ := tB_of (ds := [x]) h
  exact ⟨n, List.singleton_inj.1 h1, h2⟩
theorem tU_of {ds : List D} (h : tU.has ds) : ∃ n, ds = [u16N n] := by
  simp only [tU, Ty.has] at h
  obtain ⟨n, rfl, _⟩ := h
  exact ⟨n, rfl⟩
theorem tU_ofD {x : D} (h : tU.hasD x) : ∃ n, x = u16N n := by
  obtain ⟨n, h1⟩ := tU_of (ds := [x]) h
  exact ⟨n, List.singleton_inj.1 h1⟩
theorem bytes_ofD {x : D} (h : tBytes.hasD x) : ∃ l : List Int, x = sl_u8N l ∧ ∀ x, x ∈ l → u8In x := by
  obtain ⟨n, h1, h2⟩ := bytes_of (ds := [x]) h
  exact ⟨n, List.singleton_inj.1 h1, h2⟩
end Go.Vc

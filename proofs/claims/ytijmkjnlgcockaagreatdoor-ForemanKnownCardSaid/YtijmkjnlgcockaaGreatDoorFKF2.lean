/-
  A library for proofs about Go functions by symbolic evaluation, and plain Lean functions that the walked Go functions compute (written by a program of this claim).
-/
import Derived.Test.YtijmkjnlgcockaaGreatDoorFKF1
import Derived.Test.YtijmkjnlgcockaaGreatDoorVc3
import Derived.Test.YtijmkjnlgcockaaGreatDoorProg
import Derived.LaidSub
import Derived.MakeChecks
set_option linter.unusedVariables false
set_option linter.unnecessarySimpa false
set_option linter.unusedSimpArgs false
namespace Go.Vc
open Go.Proofs
def zbT (N : Nat) (b106_1 : LB) (b100 : LS) (b101 : LE) (b102 : LC) (x2 : Int × ByteArray × Int) (x3 : Int × Int) (x4 : Tally × Int) (v10 : Int) (v12 : Int) (b106_1' : LB) (b100' : LS) (b101' : LE) (b102' : LC) : Option (Bool) :=
 bif decide (x2.2.2 = (0 : Int)) then (bif decide (x3.2 = (5 : Int)) then (bif decide (x4.2 = (5 : Int)) then (bif decide (v10 = (13 : Int)) then (bif decide (v12 = (17 : Int)) then (bif decide (x2.1 = (2 : Int)) then (bif decide (x2.2.1 = (strC [109, 97, 112])) then ((f21 N b106_1 b100 b101 b102).bind λ x11 =>
 bif decide ((List.length x11 : Int) = (10 : Int)) then ((f14 N ).bind λ x12 =>
 some (x12))
 else (some (false)))
 else (some (false)))
 else (some (false)))
 else (some (false)))
 else (some (false)))
 else (some (false)))
 else (some (false)))
 else (some (false))
def zcM (N : Nat) (b106_1 : LB) (b100 : LS) (b101 : LE) (b102 : LC) (x2 : Int × ByteArray × Int) (x3 : Int × Int) (x4 : Tally × Int) (v10 : Int) (v12 : Int) : Lp (LB × LS × LE × LC) (Nat × Nat) (Bool) := lpm ⟨[5], [zs0, zs1, zsY, zs2, zs3, zs7, zs5, zs8, zs4, zt, zta, zs6], [(.cell zs6 1, zs5, 9, 1)], []⟩ (λ (b106_1', b100', b101', b102') => zbT N b106_1 b100 b101 b102 x2 x3 x4 v10 v12 b106_1' b100' b101' b102') (λ (_, _, _, _) (_, _) => [.ptr zs6 0]) (λ (b106_1', b100', b101', b102') (m0, m1) => [.row 9 1 (List.map strN b106_1), .fam [zsY] (encF strN StoneM.m b100) [], .fam [] (encF strN EditionM.m b101) [], .mp (encM strN bN b102), .box [.mp zs1, .mp zsY, .mp zs2], .box [.ptr zs3 0, .rs zs0 m0], .row 9 1 (List.map strN (b106_1')), .fam [zs4] (encF strN StoneM.m (b100')) [], .fam [] (encF strN EditionM.m (b101')) [], .mp (encM strN bN (b102')), .box [.mp zs8, .mp zs4, .mp zt], .box [.ptr zta 0, .rs zs5 m1]]) λ (b106_1', _, _, _) => (List.length b106_1, List.length (b106_1'))
instance zpn {N b106_1 b100 b101 b102 x2 x3 x4 v10 v12 b106_1' b100' b101' b102'} : IsLp 2 4 (zbT N b106_1 b100 b101 b102 x2 x3 x4 v10 v12 b106_1' b100' b101' b102') (zcM N b106_1 b100 b101 b102 x2 x3 x4 v10 v12) (b106_1', b100', b101', b102') := ⟨rfl⟩
instance zpo {N b106_1 b100 b101 b102 x2 x3 x4 v10 v12} : IsCut 4 (zbT N b106_1 b100 b101 b102 x2 x3 x4 v10 v12) (zcM N b106_1 b100 b101 b102 x2 x3 x4 v10 v12) ztg := ⟨⟩
def zbU (N : Nat) (b106_1 : LB) (b100 : LS) (b101 : LE) (b102 : LC) (x2 : Int × ByteArray × Int) (x3 : Int × Int) (x4 : Tally × Int) (v10 : Int) (v12 : Int) (x13 : LB) (v34 : Int) (b106_1' : LB) (b100' : LS) (b101' : LE) (b102' : LC) (r10 : Int -> LB -> LS -> LE -> LC -> Option (Bool)) (line8 : ByteArray) (e9 : Int) : Option (Bool) :=
 bif decide (e9 = (0 : Int)) then ((f18 N line8 (b106_1') (b100') (b101') (b102')).bind λ x15 =>
 bif decide (¬ x15.1 = (0 : Int)) then (bif decide (x2.2.2 = (0 : Int)) then (bif decide (x3.2 = (5 : Int)) then (bif decide (x4.2 = (5 : Int)) then (bif decide (v10 = (13 : Int)) then (bif decide (v12 = (17 : Int)) then (bif decide (x15.1 = (0 : Int)) then (some (false))
 else (some (false)))
 else (some (false)))
 else (some (false)))
 else (some (false)))
 else (some (false)))
 else (some (false)))
 else (r10 (W (v34 + (1 : Int))) x15.2.2.2.2 x15.2.1 x15.2.2.1 x15.2.2.2.1))
 else (bif decide (¬ e9 = (0 : Int)) then (bif decide (x2.2.2 = (0 : Int)) then (bif decide (x3.2 = (5 : Int)) then (bif decide (x4.2 = (5 : Int)) then (bif decide (v10 = (13 : Int)) then (bif decide (v12 = (17 : Int)) then (some (false))
 else (some (false)))
 else (some (false)))
 else (some (false)))
 else (some (false)))
 else (some (false)))
 else (r10 (W (v34 + (1 : Int))) (b106_1') (b100') (b101') (b102')))
def zcN (N : Nat) (b106_1 : LB) (b100 : LS) (b101 : LE) (b102 : LC) (x2 : Int × ByteArray × Int) (x3 : Int × Int) (x4 : Tally × Int) (v10 : Int) (v12 : Int) (x13 : LB) (v34 : Int) (b106_1' : LB) (b100' : LS) (b101' : LE) (b102' : LC) (r10 : Int -> LB -> LS -> LE -> LC -> Option (Bool)) : Lp (ByteArray × Int) (Nat × Nat) (Bool) := lpm ⟨[5, 8, 9, 32, 33, 34], [zs0, zs1, zsY, zs2, zs3, zs7, zs5, zs8, zs4, zt, zta, zs6], [], []⟩ (λ (line8, e9) => zbU N b106_1 b100 b101 b102 x2 x3 x4 v10 v12 x13 v34 b106_1' b100' b101' b102' r10 line8 e9) (λ (line8, e9) (_, _) => [.ptr zs6 0, .dat (strN line8), .dat (iN e9), .dat (zaL x13), .dat (iN (List.length x13 : Int)), .dat (iN v34)]) (λ (_, _) (m0, m1) => [.row 9 1 (List.map strN b106_1), .fam [zsY] (encF strN StoneM.m b100) [], .fam [] (encF strN EditionM.m b101) [], .mp (encM strN bN b102), .box [.mp zs1, .mp zsY, .mp zs2], .box [.ptr zs3 0, .rs zs0 m0], .row 9 1 (List.map strN (b106_1')), .fam [zs4] (encF strN StoneM.m (b100')) [], .fam [] (encF strN EditionM.m (b101')) [], .mp (encM strN bN (b102')), .box [.mp zs8, .mp zs4, .mp zt], .box [.ptr zta 0, .rs zs5 m1]]) λ (_, _) => (List.length b106_1, List.length (b106_1'))
instance zpp {N b106_1 b100 b101 b102 x2 x3 x4 v10 v12 x13 v34 b106_1' b100' b101' b102' r10 line8 e9} : IsLp 2 2 (zbU N b106_1 b100 b101 b102 x2 x3 x4 v10 v12 x13 v34 b106_1' b100' b101' b102' r10 line8 e9) (zcN N b106_1 b100 b101 b102 x2 x3 x4 v10 v12 x13 v34 b106_1' b100' b101' b102' r10) (line8, e9) := ⟨rfl⟩
instance zpq {N b106_1 b100 b101 b102 x2 x3 x4 v10 v12 x13 v34 b106_1' b100' b101' b102' r10} : IsCut 2 (zbU N b106_1 b100 b101 b102 x2 x3 x4 v10 v12 x13 v34 b106_1' b100' b101' b102' r10) (zcN N b106_1 b100 b101 b102 x2 x3 x4 v10 v12 x13 v34 b106_1' b100' b101' b102' r10) zth := ⟨⟩
def zeE (r10 : Int -> LB -> LS -> LE -> LC -> Option (Bool)) (N : Nat) (b106_1 : LB) (b100 : LS) (b101 : LE) (b102 : LC) (x2 : Int × ByteArray × Int) (x3 : Int × Int) (x4 : Tally × Int) (v10 : Int) (v12 : Int) (k0 : LB -> LS -> LE -> LC -> Option (Bool)) (x13 : LB) (v34 : Int) (b106_1' : LB) (b100' : LS) (b101' : LE) (b102' : LC) : Option (Bool) :=
 bif decide (v34 < (List.length x13 : Int)) then ((ix x13 v34).bind λ x14 =>
 zaU (zbU N b106_1 b100 b101 b102 x2 x3 x4 v10 v12 x13 v34 b106_1' b100' b101' b102' r10) λ k1 =>
 (f75 N x14).bind λ x16 =>
 k1 x16.1 x16.2)
 else (k0 (b106_1') (b100') (b101') (b102'))
def zcc (N : Nat) (b106_1 : LB) (b100 : LS) (b101 : LE) (b102 : LC) (x2 : Int × ByteArray × Int) (x3 : Int × Int) (x4 : Tally × Int) (v10 : Int) (v12 : Int) (k0 : LB -> LS -> LE -> LC -> Option (Bool)) (x13 : LB) : Nat -> Int -> LB -> LS -> LE -> LC -> Option (Bool)
 | 0, _, _, _, _, _ => none
 | n + 1, v34, b106_1', b100', b101', b102' => zeE (zcc N b106_1 b100 b101 b102 x2 x3 x4 v10 v12 k0 x13 n) N b106_1 b100 b101 b102 x2 x3 x4 v10 v12 k0 x13 v34 b106_1' b100' b101' b102'
def zeF (N : Nat) (b106_1 : LB) (b100 : LS) (b101 : LE) (b102 : LC) (x2 : Int × ByteArray × Int) (x3 : Int × Int) (x4 : Tally × Int) (v10 : Int) (v12 : Int) (k0 : LB -> LS -> LE -> LC -> Option (Bool)) (x13 : LB) : Lp (Nat × Int × LB × LS × LE × LC) (Nat × Nat) (Bool) := lpm ⟨[5, 32, 33, 34], [zs0, zs1, zsY, zs2, zs3, zs7, zs5, zs8, zs4, zt, zta, zs6], [(.cell zs6 1, zs5, 9, 1)], []⟩ (λ (n, v34, b106_1', b100', b101', b102') => zcc N b106_1 b100 b101 b102 x2 x3 x4 v10 v12 k0 x13 n v34 b106_1' b100' b101' b102') (λ (_, v34, _, _, _, _) (_, _) => [.ptr zs6 0, .dat (zaL x13), .dat (iN (List.length x13 : Int)), .dat (iN v34)]) (λ (_, _, b106_1', b100', b101', b102') (m0, m1) => [.row 9 1 (List.map strN b106_1), .fam [zsY] (encF strN StoneM.m b100) [], .fam [] (encF strN EditionM.m b101) [], .mp (encM strN bN b102), .box [.mp zs1, .mp zsY, .mp zs2], .box [.ptr zs3 0, .rs zs0 m0], .row 9 1 (List.map strN (b106_1')), .fam [zs4] (encF strN StoneM.m (b100')) [], .fam [] (encF strN EditionM.m (b101')) [], .mp (encM strN bN (b102')), .box [.mp zs8, .mp zs4, .mp zt], .box [.ptr zta 0, .rs zs5 m1]]) λ (_, _, b106_1', _, _, _) => (List.length b106_1, List.length (b106_1'))
instance zp3 {N b106_1 b100 b101 b102 x2 x3 x4 v10 v12 k0 x13 n v34 b106_1' b100' b101' b102'} : IsLp 2 5 (zcc N b106_1 b100 b101 b102 x2 x3 x4 v10 v12 k0 x13 n v34 b106_1' b100' b101' b102') (zeF N b106_1 b100 b101 b102 x2 x3 x4 v10 v12 k0 x13) (n, v34, b106_1', b100', b101', b102') := ⟨rfl⟩
def zjG (N : Nat) (b106_1 : LB) (b100 : LS) (b101 : LE) (b102 : LC) (x2 : Int × ByteArray × Int) (x3 : Int × Int) (x4 : Tally × Int) (v10 : Int) (v12 : Int) : Option (Bool) :=
 (f72 N (strC [116, 117, 115, 99, 104, 101, 32, 49, 10, 101, 100, 105, 116, 105, 111, 110, 32, 97, 32, 52, 49, 55, 48, 54, 10]) (strC [10])).bind λ x5 =>
 bif !x5 then (bif decide (x2.2.2 = (0 : Int)) then (bif decide (x3.2 = (5 : Int)) then (bif decide (x4.2 = (5 : Int)) then (bif decide (v10 = (13 : Int)) then (bif decide (v12 = (17 : Int)) then (some (false))
 else (some (false)))
 else (some (false)))
 else (some (false)))
 else (some (false)))
 else (some (false)))
 else ((f74 N (strC [116, 117, 115, 99, 104, 101, 32, 49, 10, 101, 100, 105, 116, 105, 111, 110, 32, 97, 32, 52, 49, 55, 48, 54, 10]) (strC [10])).bind λ x6 =>
 (f73 N x6 (strC [10])).bind λ x7 =>
 (ix x7 (0 : Int)).bind λ x8 =>
 (f30 N (W ((List.length x7 : Int) - (1 : Int)))).bind λ x9 =>
 (addS (strC [116, 117, 115, 99, 104, 101, 32]) x9).bind λ x10 =>
 bif decide (¬ x8 = x10) then (bif decide (x2.2.2 = (0 : Int)) then (bif decide (x3.2 = (5 : Int)) then (bif decide (x4.2 = (5 : Int)) then (bif decide (v10 = (13 : Int)) then (bif decide (v12 = (17 : Int)) then (some (false))
 else (some (false)))
 else (some (false)))
 else (some (false)))
 else (some (false)))
 else (some (false)))
 else (zaU (zbT N b106_1 b100 b101 b102 x2 x3 x4 v10 v12) λ k0 =>
 (sub x7 (1 : Int) (List.length x7 : Int)).bind λ x13 =>
 zcc N b106_1 b100 b101 b102 x2 x3 x4 v10 v12 k0 x13 N (0 : Int) [] [] [] []))
def zkF (N : Nat) (b106_1 : LB) (b100 : LS) (b101 : LE) (b102 : LC) (x2 : Int × ByteArray × Int) (x3 : Int × Int) (x4 : Tally × Int) (v10 : Int) : Lp (Int) (Nat × Unit) (Bool) := lpm ⟨[1, 2, 3, 4, 6, 8, 10, 12], [zs0, zs1, zsY, zs2, zs3, zs7], [], []⟩ (λ v12 => zjG N b106_1 b100 b101 b102 x2 x3 x4 v10 v12) (λ v12 (_, _) => [.ptr zs7 0, .dat (iN x2.1), .dat (strN x2.2.1), .dat (iN x2.2.2), .dat (iN x3.2), .dat (iN x4.2), .dat (iN v10), .dat (iN v12)]) (λ _ (m0, _) => [.row 9 1 (List.map strN b106_1), .fam [zsY] (encF strN StoneM.m b100) [], .fam [] (encF strN EditionM.m b101) [], .mp (encM strN bN b102), .box [.mp zs1, .mp zsY, .mp zs2], .box [.ptr zs3 0, .rs zs0 m0]]) λ _ => (List.length b106_1, ())
instance Ef10_c7 {N b106_1 b100 b101 b102 x2 x3 x4 v10 v12} : IsLp 1 1 (zjG N b106_1 b100 b101 b102 x2 x3 x4 v10 v12) (zkF N b106_1 b100 b101 b102 x2 x3 x4 v10) v12 := ⟨rfl⟩
instance Cf10_c7 {N b106_1 b100 b101 b102 x2 x3 x4 v10} : IsCut 1 (zjG N b106_1 b100 b101 b102 x2 x3 x4 v10) (zkF N b106_1 b100 b101 b102 x2 x3 x4 v10) 7 := ⟨⟩
def zbV (b106_1 : LB) (b100 : LS) (b101 : LE) (b102 : LC) (k2 : Int -> Option (Bool)) (b106_1' : LB) (b100' : LS) (b101' : LE) (b102' : LC) : Option (Bool) :=
 k2 (0 : Int)
def zcO (b106_1 : LB) (b100 : LS) (b101 : LE) (b102 : LC) (k2 : Int -> Option (Bool)) : Lp (LB × LS × LE × LC) (Nat × Nat) (Bool) := lpm ⟨[5], [zs0, zs1, zsY, zs2, zs3, zs7, zs5, zs8, zs4, zt, zta, zs6], [(.cell zs6 1, zs5, 9, 1)], []⟩ (λ (b106_1', b100', b101', b102') => zbV b106_1 b100 b101 b102 k2 b106_1' b100' b101' b102') (λ (_, _, _, _) (_, _) => [.ptr zs6 0]) (λ (b106_1', b100', b101', b102') (m0, m1) => [.row 9 1 (List.map strN b106_1), .fam [zsY] (encF strN StoneM.m b100) [], .fam [] (encF strN EditionM.m b101) [], .mp (encM strN bN b102), .box [.mp zs1, .mp zsY, .mp zs2], .box [.ptr zs3 0, .rs zs0 m0], .row 9 1 (List.map strN (b106_1')), .fam [zs4] (encF strN StoneM.m (b100')) [], .fam [] (encF strN EditionM.m (b101')) [], .mp (encM strN bN (b102')), .box [.mp zs8, .mp zs4, .mp zt], .box [.ptr zta 0, .rs zs5 m1]]) λ (b106_1', _, _, _) => (List.length b106_1, List.length (b106_1'))
instance zpr {b106_1 b100 b101 b102 k2 b106_1' b100' b101' b102'} : IsLp 2 4 (zbV b106_1 b100 b101 b102 k2 b106_1' b100' b101' b102') (zcO b106_1 b100 b101 b102 k2) (b106_1', b100', b101', b102') := ⟨rfl⟩
instance zps {b106_1 b100 b101 b102 k2} : IsCut 4 (zbV b106_1 b100 b101 b102 k2) (zcO b106_1 b100 b101 b102 k2) ztg := ⟨⟩
def zbW (N : Nat) (b106_1 : LB) (b100 : LS) (b101 : LE) (b102 : LC) (k2 : Int -> Option (Bool)) (x23 : LB) (v34 : Int) (b106_1' : LB) (b100' : LS) (b101' : LE) (b102' : LC) (r10 : Int -> LB -> LS -> LE -> LC -> Option (Bool)) (line8 : ByteArray) (e9 : Int) : Option (Bool) :=
 bif decide (e9 = (0 : Int)) then ((f18 N line8 (b106_1') (b100') (b101') (b102')).bind λ x25 =>
 bif decide (¬ x25.1 = (0 : Int)) then (k2 x25.1)
 else (r10 (W (v34 + (1 : Int))) x25.2.2.2.2 x25.2.1 x25.2.2.1 x25.2.2.2.1))
 else (bif decide (¬ e9 = (0 : Int)) then (k2 e9)
 else (r10 (W (v34 + (1 : Int))) (b106_1') (b100') (b101') (b102')))
def zcP (N : Nat) (b106_1 : LB) (b100 : LS) (b101 : LE) (b102 : LC) (k2 : Int -> Option (Bool)) (x23 : LB) (v34 : Int) (b106_1' : LB) (b100' : LS) (b101' : LE) (b102' : LC) (r10 : Int -> LB -> LS -> LE -> LC -> Option (Bool)) : Lp (ByteArray × Int) (Nat × Nat) (Bool) := lpm ⟨[5, 8, 9, 32, 33, 34], [zs0, zs1, zsY, zs2, zs3, zs7, zs5, zs8, zs4, zt, zta, zs6], [], []⟩ (λ (line8, e9) => zbW N b106_1 b100 b101 b102 k2 x23 v34 b106_1' b100' b101' b102' r10 line8 e9) (λ (line8, e9) (_, _) => [.ptr zs6 0, .dat (strN line8), .dat (iN e9), .dat (zaL x23), .dat (iN (List.length x23 : Int)), .dat (iN v34)]) (λ (_, _) (m0, m1) => [.row 9 1 (List.map strN b106_1), .fam [zsY] (encF strN StoneM.m b100) [], .fam [] (encF strN EditionM.m b101) [], .mp (encM strN bN b102), .box [.mp zs1, .mp zsY, .mp zs2], .box [.ptr zs3 0, .rs zs0 m0], .row 9 1 (List.map strN (b106_1')), .fam [zs4] (encF strN StoneM.m (b100')) [], .fam [] (encF strN EditionM.m (b101')) [], .mp (encM strN bN (b102')), .box [.mp zs8, .mp zs4, .mp zt], .box [.ptr zta 0, .rs zs5 m1]]) λ (_, _) => (List.length b106_1, List.length (b106_1'))
instance zpt {N b106_1 b100 b101 b102 k2 x23 v34 b106_1' b100' b101' b102' r10 line8 e9} : IsLp 2 2 (zbW N b106_1 b100 b101 b102 k2 x23 v34 b106_1' b100' b101' b102' r10 line8 e9) (zcP N b106_1 b100 b101 b102 k2 x23 v34 b106_1' b100' b101' b102' r10) (line8, e9) := ⟨rfl⟩
instance zpu {N b106_1 b100 b101 b102 k2 x23 v34 b106_1' b100' b101' b102' r10} : IsCut 2 (zbW N b106_1 b100 b101 b102 k2 x23 v34 b106_1' b100' b101' b102' r10) (zcP N b106_1 b100 b101 b102 k2 x23 v34 b106_1' b100' b101' b102' r10) zth := ⟨⟩
def zeG (r10 : Int -> LB -> LS -> LE -> LC -> Option (Bool)) (N : Nat) (b106_1 : LB) (b100 : LS) (b101 : LE) (b102 : LC) (k2 : Int -> Option (Bool)) (k3 : LB -> LS -> LE -> LC -> Option (Bool)) (x23 : LB) (v34 : Int) (b106_1' : LB) (b100' : LS) (b101' : LE) (b102' : LC) : Option (Bool) :=
 bif decide (v34 < (List.length x23 : Int)) then ((ix x23 v34).bind λ x24 =>
 zaU (zbW N b106_1 b100 b101 b102 k2 x23 v34 b106_1' b100' b101' b102' r10) λ k4 =>
 (f75 N x24).bind λ x26 =>
 k4 x26.1 x26.2)
 else (k3 (b106_1') (b100') (b101') (b102'))
def zcd (N : Nat) (b106_1 : LB) (b100 : LS) (b101 : LE) (b102 : LC) (k2 : Int -> Option (Bool)) (k3 : LB -> LS -> LE -> LC -> Option (Bool)) (x23 : LB) : Nat -> Int -> LB -> LS -> LE -> LC -> Option (Bool)
 | 0, _, _, _, _, _ => none
 | n + 1, v34, b106_1', b100', b101', b102' => zeG (zcd N b106_1 b100 b101 b102 k2 k3 x23 n) N b106_1 b100 b101 b102 k2 k3 x23 v34 b106_1' b100' b101' b102'
def zeH (N : Nat) (b106_1 : LB) (b100 : LS) (b101 : LE) (b102 : LC) (k2 : Int -> Option (Bool)) (k3 : LB -> LS -> LE -> LC -> Option (Bool)) (x23 : LB) : Lp (Nat × Int × LB × LS × LE × LC) (Nat × Nat) (Bool) := lpm ⟨[5, 32, 33, 34], [zs0, zs1, zsY, zs2, zs3, zs7, zs5, zs8, zs4, zt, zta, zs6], [(.cell zs6 1, zs5, 9, 1)], []⟩ (λ (n, v34, b106_1', b100', b101', b102') => zcd N b106_1 b100 b101 b102 k2 k3 x23 n v34 b106_1' b100' b101' b102') (λ (_, v34, _, _, _, _) (_, _) => [.ptr zs6 0, .dat (zaL x23), .dat (iN (List.length x23 : Int)), .dat (iN v34)]) (λ (_, _, b106_1', b100', b101', b102') (m0, m1) => [.row 9 1 (List.map strN b106_1), .fam [zsY] (encF strN StoneM.m b100) [], .fam [] (encF strN EditionM.m b101) [], .mp (encM strN bN b102), .box [.mp zs1, .mp zsY, .mp zs2], .box [.ptr zs3 0, .rs zs0 m0], .row 9 1 (List.map strN (b106_1')), .fam [zs4] (encF strN StoneM.m (b100')) [], .fam [] (encF strN EditionM.m (b101')) [], .mp (encM strN bN (b102')), .box [.mp zs8, .mp zs4, .mp zt], .box [.ptr zta 0, .rs zs5 m1]]) λ (_, _, b106_1', _, _, _) => (List.length b106_1, List.length (b106_1'))
instance zp4 {N b106_1 b100 b101 b102 k2 k3 x23 n v34 b106_1' b100' b101' b102'} : IsLp 2 5 (zcd N b106_1 b100 b101 b102 k2 k3 x23 n v34 b106_1' b100' b101' b102') (zeH N b106_1 b100 b101 b102 k2 k3 x23) (n, v34, b106_1', b100', b101', b102') := ⟨rfl⟩
def zjH (N : Nat) (b106_1 : LB) (b100 : LS) (b101 : LE) (b102 : LC) (x2 : Int × ByteArray × Int) (x3 : Int × Int) (x4 : Tally × Int) (v10 : Int) : Option (Bool) :=
 zaU (zjG N b106_1 b100 b101 b102 x2 x3 x4 v10) λ k2 =>
 (f72 N (strC [116, 117, 115, 99, 104, 101, 32, 49, 10, 101, 100, 105, 116, 105, 111, 110, 32, 98, 32, 52, 49, 55, 48, 54, 10]) (strC [10])).bind λ x17 =>
 bif !x17 then (k2 (18 : Int))
 else ((f74 N (strC [116, 117, 115, 99, 104, 101, 32, 49, 10, 101, 100, 105, 116, 105, 111, 110, 32, 98, 32, 52, 49, 55, 48, 54, 10]) (strC [10])).bind λ x18 =>
 (f73 N x18 (strC [10])).bind λ x19 =>
 (ix x19 (0 : Int)).bind λ x20 =>
 (f30 N (W ((List.length x19 : Int) - (1 : Int)))).bind λ x21 =>
 (addS (strC [116, 117, 115, 99, 104, 101, 32]) x21).bind λ x22 =>
 bif decide (¬ x20 = x22) then (k2 (9 : Int))
 else (zaU (zbV b106_1 b100 b101 b102 k2) λ k3 =>
 (sub x19 (1 : Int) (List.length x19 : Int)).bind λ x23 =>
 zcd N b106_1 b100 b101 b102 k2 k3 x23 N (0 : Int) [] [] [] []))
def zkG (N : Nat) (b106_1 : LB) (b100 : LS) (b101 : LE) (b102 : LC) (x2 : Int × ByteArray × Int) (x3 : Int × Int) (x4 : Tally × Int) : Lp (Int) (Nat × Unit) (Bool) := lpm ⟨[1, 2, 3, 4, 6, 8, 10], [zs0, zs1, zsY, zs2, zs3, zs7], [], []⟩ (λ v10 => zjH N b106_1 b100 b101 b102 x2 x3 x4 v10) (λ v10 (_, _) => [.ptr zs7 0, .dat (iN x2.1), .dat (strN x2.2.1), .dat (iN x2.2.2), .dat (iN x3.2), .dat (iN x4.2), .dat (iN v10)]) (λ _ (m0, _) => [.row 9 1 (List.map strN b106_1), .fam [zsY] (encF strN StoneM.m b100) [], .fam [] (encF strN EditionM.m b101) [], .mp (encM strN bN b102), .box [.mp zs1, .mp zsY, .mp zs2], .box [.ptr zs3 0, .rs zs0 m0]]) λ _ => (List.length b106_1, ())
instance Ef10_c6 {N b106_1 b100 b101 b102 x2 x3 x4 v10} : IsLp 1 1 (zjH N b106_1 b100 b101 b102 x2 x3 x4 v10) (zkG N b106_1 b100 b101 b102 x2 x3 x4) v10 := ⟨rfl⟩
instance Cf10_c6 {N b106_1 b100 b101 b102 x2 x3 x4} : IsCut 1 (zjH N b106_1 b100 b101 b102 x2 x3 x4) (zkG N b106_1 b100 b101 b102 x2 x3 x4) 6 := ⟨⟩
def zbX (b106_1 : LB) (b100 : LS) (b101 : LE) (b102 : LC) (x4 : Tally × Int) (k5 : Int -> Option (Bool)) (b106_1' : LB) (b100' : LS) (b101' : LE) (b102' : LC) : Option (Bool) :=
 k5 (0 : Int)
def zcQ (b106_1 : LB) (b100 : LS) (b101 : LE) (b102 : LC) (x4 : Tally × Int) (k5 : Int -> Option (Bool)) : Lp (LB × LS × LE × LC) (Nat × Nat) (Bool) := lpm ⟨[5], [405, zs0, zs1, zsY, zs2, zs3, zs7, zs5, zs8, zs4, zt, zta, zs6], [(.cell zs6 1, zs5, 9, 1)], []⟩ (λ (b106_1', b100', b101', b102') => zbX b106_1 b100 b101 b102 x4 k5 b106_1' b100' b101' b102') (λ (_, _, _, _) (_, _) => [.ptr zs6 0]) (λ (b106_1', b100', b101', b102') (m0, m1) => [.box [.dat (iN x4.1.Paper), .dat (iN x4.1.Delivered), .dat (iN x4.1.Spoilt), .dat (iN x4.1.Lost), .dat (iN x4.1.Rest)], .row 9 1 (List.map strN b106_1), .fam [zsY] (encF strN StoneM.m b100) [], .fam [] (encF strN EditionM.m b101) [], .mp (encM strN bN b102), .box [.mp zs1, .mp zsY, .mp zs2], .box [.ptr zs3 0, .rs zs0 m0], .row 9 1 (List.map strN (b106_1')), .fam [zs4] (encF strN StoneM.m (b100')) [], .fam [] (encF strN EditionM.m (b101')) [], .mp (encM strN bN (b102')), .box [.mp zs8, .mp zs4, .mp zt], .box [.ptr zta 0, .rs zs5 m1]]) λ (b106_1', _, _, _) => (List.length b106_1, List.length (b106_1'))
instance zpv {b106_1 b100 b101 b102 x4 k5 b106_1' b100' b101' b102'} : IsLp 2 4 (zbX b106_1 b100 b101 b102 x4 k5 b106_1' b100' b101' b102') (zcQ b106_1 b100 b101 b102 x4 k5) (b106_1', b100', b101', b102') := ⟨rfl⟩
instance zpw {b106_1 b100 b101 b102 x4 k5} : IsCut 4 (zbX b106_1 b100 b101 b102 x4 k5) (zcQ b106_1 b100 b101 b102 x4 k5) ztg := ⟨⟩
def zbY (N : Nat) (b106_1 : LB) (b100 : LS) (b101 : LE) (b102 : LC) (x4 : Tally × Int) (k5 : Int -> Option (Bool)) (x33 : LB) (v34 : Int) (b106_1' : LB) (b100' : LS) (b101' : LE) (b102' : LC) (r10 : Int -> LB -> LS -> LE -> LC -> Option (Bool)) (line8 : ByteArray) (e9 : Int) : Option (Bool) :=
 bif decide (e9 = (0 : Int)) then ((f18 N line8 (b106_1') (b100') (b101') (b102')).bind λ x35 =>
 bif decide (¬ x35.1 = (0 : Int)) then (k5 x35.1)
 else (r10 (W (v34 + (1 : Int))) x35.2.2.2.2 x35.2.1 x35.2.2.1 x35.2.2.2.1))
 else (bif decide (¬ e9 = (0 : Int)) then (k5 e9)
 else (r10 (W (v34 + (1 : Int))) (b106_1') (b100') (b101') (b102')))
def zcR (N : Nat) (b106_1 : LB) (b100 : LS) (b101 : LE) (b102 : LC) (x4 : Tally × Int) (k5 : Int -> Option (Bool)) (x33 : LB) (v34 : Int) (b106_1' : LB) (b100' : LS) (b101' : LE) (b102' : LC) (r10 : Int -> LB -> LS -> LE -> LC -> Option (Bool)) : Lp (ByteArray × Int) (Nat × Nat) (Bool) := lpm ⟨[5, 8, 9, 32, 33, 34], [405, zs0, zs1, zsY, zs2, zs3, zs7, zs5, zs8, zs4, zt, zta, zs6], [], []⟩ (λ (line8, e9) => zbY N b106_1 b100 b101 b102 x4 k5 x33 v34 b106_1' b100' b101' b102' r10 line8 e9) (λ (line8, e9) (_, _) => [.ptr zs6 0, .dat (strN line8), .dat (iN e9), .dat (zaL x33), .dat (iN (List.length x33 : Int)), .dat (iN v34)]) (λ (_, _) (m0, m1) => [.box [.dat (iN x4.1.Paper), .dat (iN x4.1.Delivered), .dat (iN x4.1.Spoilt), .dat (iN x4.1.Lost), .dat (iN x4.1.Rest)], .row 9 1 (List.map strN b106_1), .fam [zsY] (encF strN StoneM.m b100) [], .fam [] (encF strN EditionM.m b101) [], .mp (encM strN bN b102), .box [.mp zs1, .mp zsY, .mp zs2], .box [.ptr zs3 0, .rs zs0 m0], .row 9 1 (List.map strN (b106_1')), .fam [zs4] (encF strN StoneM.m (b100')) [], .fam [] (encF strN EditionM.m (b101')) [], .mp (encM strN bN (b102')), .box [.mp zs8, .mp zs4, .mp zt], .box [.ptr zta 0, .rs zs5 m1]]) λ (_, _) => (List.length b106_1, List.length (b106_1'))
instance zpx {N b106_1 b100 b101 b102 x4 k5 x33 v34 b106_1' b100' b101' b102' r10 line8 e9} : IsLp 2 2 (zbY N b106_1 b100 b101 b102 x4 k5 x33 v34 b106_1' b100' b101' b102' r10 line8 e9) (zcR N b106_1 b100 b101 b102 x4 k5 x33 v34 b106_1' b100' b101' b102' r10) (line8, e9) := ⟨rfl⟩
instance zpy {N b106_1 b100 b101 b102 x4 k5 x33 v34 b106_1' b100' b101' b102' r10} : IsCut 2 (zbY N b106_1 b100 b101 b102 x4 k5 x33 v34 b106_1' b100' b101' b102' r10) (zcR N b106_1 b100 b101 b102 x4 k5 x33 v34 b106_1' b100' b101' b102' r10) zth := ⟨⟩
def zeI (r10 : Int -> LB -> LS -> LE -> LC -> Option (Bool)) (N : Nat) (b106_1 : LB) (b100 : LS) (b101 : LE) (b102 : LC) (x4 : Tally × Int) (k5 : Int -> Option (Bool)) (k6 : LB -> LS -> LE -> LC -> Option (Bool)) (x33 : LB) (v34 : Int) (b106_1' : LB) (b100' : LS) (b101' : LE) (b102' : LC) : Option (Bool) :=
 bif decide (v34 < (List.length x33 : Int)) then ((ix x33 v34).bind λ x34 =>
 zaU (zbY N b106_1 b100 b101 b102 x4 k5 x33 v34 b106_1' b100' b101' b102' r10) λ k7 =>
 (f75 N x34).bind λ x36 =>
 k7 x36.1 x36.2)
 else (k6 (b106_1') (b100') (b101') (b102'))
def zce (N : Nat) (b106_1 : LB) (b100 : LS) (b101 : LE) (b102 : LC) (x4 : Tally × Int) (k5 : Int -> Option (Bool)) (k6 : LB -> LS -> LE -> LC -> Option (Bool)) (x33 : LB) : Nat -> Int -> LB -> LS -> LE -> LC -> Option (Bool)
 | 0, _, _, _, _, _ => none
 | n + 1, v34, b106_1', b100', b101', b102' => zeI (zce N b106_1 b100 b101 b102 x4 k5 k6 x33 n) N b106_1 b100 b101 b102 x4 k5 k6 x33 v34 b106_1' b100' b101' b102'
def zeJ (N : Nat) (b106_1 : LB) (b100 : LS) (b101 : LE) (b102 : LC) (x4 : Tally × Int) (k5 : Int -> Option (Bool)) (k6 : LB -> LS -> LE -> LC -> Option (Bool)) (x33 : LB) : Lp (Nat × Int × LB × LS × LE × LC) (Nat × Nat) (Bool) := lpm ⟨[5, 32, 33, 34], [405, zs0, zs1, zsY, zs2, zs3, zs7, zs5, zs8, zs4, zt, zta, zs6], [(.cell zs6 1, zs5, 9, 1)], []⟩ (λ (n, v34, b106_1', b100', b101', b102') => zce N b106_1 b100 b101 b102 x4 k5 k6 x33 n v34 b106_1' b100' b101' b102') (λ (_, v34, _, _, _, _) (_, _) => [.ptr zs6 0, .dat (zaL x33), .dat (iN (List.length x33 : Int)), .dat (iN v34)]) (λ (_, _, b106_1', b100', b101', b102') (m0, m1) => [.box [.dat (iN x4.1.Paper), .dat (iN x4.1.Delivered), .dat (iN x4.1.Spoilt), .dat (iN x4.1.Lost), .dat (iN x4.1.Rest)], .row 9 1 (List.map strN b106_1), .fam [zsY] (encF strN StoneM.m b100) [], .fam [] (encF strN EditionM.m b101) [], .mp (encM strN bN b102), .box [.mp zs1, .mp zsY, .mp zs2], .box [.ptr zs3 0, .rs zs0 m0], .row 9 1 (List.map strN (b106_1')), .fam [zs4] (encF strN StoneM.m (b100')) [], .fam [] (encF strN EditionM.m (b101')) [], .mp (encM strN bN (b102')), .box [.mp zs8, .mp zs4, .mp zt], .box [.ptr zta 0, .rs zs5 m1]]) λ (_, _, b106_1', _, _, _) => (List.length b106_1, List.length (b106_1'))
instance zp5 {N b106_1 b100 b101 b102 x4 k5 k6 x33 n v34 b106_1' b100' b101' b102'} : IsLp 2 5 (zce N b106_1 b100 b101 b102 x4 k5 k6 x33 n v34 b106_1' b100' b101' b102') (zeJ N b106_1 b100 b101 b102 x4 k5 k6 x33) (n, v34, b106_1', b100', b101', b102') := ⟨rfl⟩
def zcf (N : Nat) (b106_1 : LB) (b100 : LS) (b101 : LE) (b102 : LC) : Option (Bool) :=
 (f32 N (strC [97]) b106_1 b100 b101 b102).bind λ x2 =>
 (f36 N (strC [98, 111, 98]) (strC [109, 97, 112]) b106_1 b100 b101 b102).bind λ x3 =>
 (f34 N (strC [111, 100, 101]) b106_1 b100 b101 b102).bind λ x4 =>
 zaU (zjH N b106_1 b100 b101 b102 x2 x3 x4) λ k5 =>
 (f72 N (strC [116, 117, 115, 99, 104, 101, 32, 49, 10, 101, 100, 105, 116, 105, 111, 110, 32, 97, 32, 52, 49, 55, 48, 55, 10]) (strC [10])).bind λ x27 =>
 bif !x27 then (k5 (18 : Int))
 else ((f74 N (strC [116, 117, 115, 99, 104, 101, 32, 49, 10, 101, 100, 105, 116, 105, 111, 110, 32, 97, 32, 52, 49, 55, 48, 55, 10]) (strC [10])).bind λ x28 =>
 (f73 N x28 (strC [10])).bind λ x29 =>
 (ix x29 (0 : Int)).bind λ x30 =>
 (f30 N (W ((List.length x29 : Int) - (1 : Int)))).bind λ x31 =>
 (addS (strC [116, 117, 115, 99, 104, 101, 32]) x31).bind λ x32 =>
 bif decide (¬ x30 = x32) then (k5 (9 : Int))
 else (zaU (zbX b106_1 b100 b101 b102 x4 k5) λ k6 =>
 (sub x29 (1 : Int) (List.length x29 : Int)).bind λ x33 =>
 zce N b106_1 b100 b101 b102 x4 k5 k6 x33 N (0 : Int) [] [] [] []))
def zc3 (N : Nat) : Lp (LB × LS × LE × LC) (Nat × Unit) (Bool) := lpm ⟨[3], [zs0, zs1, zsY, zs2, zs3, zs7], [(.cell zs7 1, zs0, 9, 1)], []⟩ (λ (b106_1, b100, b101, b102) => zcf N b106_1 b100 b101 b102) (λ (_, _, _, _) (_, _) => [.ptr zs7 0]) (λ (b106_1, b100, b101, b102) (m0, _) => [.row 9 1 (List.map strN b106_1), .fam [zsY] (encF strN StoneM.m b100) [], .fam [] (encF strN EditionM.m b101) [], .mp (encM strN bN b102), .box [.mp zs1, .mp zsY, .mp zs2], .box [.ptr zs3 0, .rs zs0 m0]]) λ (b106_1, _, _, _) => (List.length b106_1, ())
instance zp6 {N b106_1 b100 b101 b102} : IsLp 1 4 (zcf N b106_1 b100 b101 b102) (zc3 N) (b106_1, b100, b101, b102) := ⟨rfl⟩
instance zp7 {N} : IsCut 4 (zcf N) (zc3 N) 102000000007 := ⟨⟩
def zcg (N : Nat) (x1 : LB) (v9 : Int) (b106_1 : LB) (b100 : LS) (b101 : LE) (b102 : LC) (r3 : Int -> LB -> LS -> LE -> LC -> Option (Bool)) (x5 : ByteArray) : Option (Bool) :=
 (f18 N x5 b106_1 b100 b101 b102).bind λ x37 =>
 r3 (W (v9 + (1 : Int))) x37.2.2.2.2 x37.2.1 x37.2.2.1 x37.2.2.2.1
def zc4 (N : Nat) (x1 : LB) (v9 : Int) (b106_1 : LB) (b100 : LS) (b101 : LE) (b102 : LC) (r3 : Int -> LB -> LS -> LE -> LC -> Option (Bool)) : Lp (ByteArray) (Nat × Unit) (Bool) := lpm ⟨[3, 5, 7, 8, 9], [zs0, zs1, zsY, zs2, zs3, zs7], [], []⟩ (λ x5 => zcg N x1 v9 b106_1 b100 b101 b102 r3 x5) (λ x5 (_, _) => [.ptr zs7 0, .dat (strN x5), .dat (zaL x1), .dat (iN (List.length x1 : Int)), .dat (iN v9)]) (λ _ (m0, _) => [.row 9 1 (List.map strN b106_1), .fam [zsY] (encF strN StoneM.m b100) [], .fam [] (encF strN EditionM.m b101) [], .mp (encM strN bN b102), .box [.mp zs1, .mp zsY, .mp zs2], .box [.ptr zs3 0, .rs zs0 m0]]) λ _ => (List.length b106_1, ())
instance zp8 {N x1 v9 b106_1 b100 b101 b102 r3 x5} : IsLp 1 1 (zcg N x1 v9 b106_1 b100 b101 b102 r3 x5) (zc4 N x1 v9 b106_1 b100 b101 b102 r3) x5 := ⟨rfl⟩
instance zp9 {N x1 v9 b106_1 b100 b101 b102 r3} : IsCut 1 (zcg N x1 v9 b106_1 b100 b101 b102 r3) (zc4 N x1 v9 b106_1 b100 b101 b102 r3) 102000000005 := ⟨⟩
def zgm (r3 : Int -> LB -> LS -> LE -> LC -> Option (Bool)) (N : Nat) (x1 : LB) (k8 : LB -> LS -> LE -> LC -> Option (Bool)) (v9 : Int) (b106_1 : LB) (b100 : LS) (b101 : LE) (b102 : LC) : Option (Bool) :=
 bif decide (v9 < (List.length x1 : Int)) then (zaU (zcg N x1 v9 b106_1 b100 b101 b102 r3) λ k9 =>
 (ix x1 v9).bind λ x38 =>
 k9 x38)
 else (k8 b106_1 b100 b101 b102)
def zcA (N : Nat) (x1 : LB) (k8 : LB -> LS -> LE -> LC -> Option (Bool)) : Nat -> Int -> LB -> LS -> LE -> LC -> Option (Bool)
 | 0, _, _, _, _, _ => none
 | n + 1, v9, b106_1, b100, b101, b102 => zgm (zcA N x1 k8 n) N x1 k8 v9 b106_1 b100 b101 b102
def zgn (N : Nat) (x1 : LB) (k8 : LB -> LS -> LE -> LC -> Option (Bool)) : Lp (Nat × Int × LB × LS × LE × LC) (Nat × Unit) (Bool) := lpm ⟨[3, 7, 8, 9], [zs0, zs1, zsY, zs2, zs3, zs7], [(.cell zs7 1, zs0, 9, 1)], []⟩ (λ (n, v9, b106_1, b100, b101, b102) => zcA N x1 k8 n v9 b106_1 b100 b101 b102) (λ (_, v9, _, _, _, _) (_, _) => [.ptr zs7 0, .dat (zaL x1), .dat (iN (List.length x1 : Int)), .dat (iN v9)]) (λ (_, _, b106_1, b100, b101, b102) (m0, _) => [.row 9 1 (List.map strN b106_1), .fam [zsY] (encF strN StoneM.m b100) [], .fam [] (encF strN EditionM.m b101) [], .mp (encM strN bN b102), .box [.mp zs1, .mp zsY, .mp zs2], .box [.ptr zs3 0, .rs zs0 m0]]) λ (_, _, b106_1, _, _, _) => (List.length b106_1, ())
instance zrn {N x1 k8 n v9 b106_1 b100 b101 b102} : IsLp 1 5 (zcA N x1 k8 n v9 b106_1 b100 b101 b102) (zgn N x1 k8) (n, v9, b106_1, b100, b101, b102) := ⟨rfl⟩
def f10 (N : Nat) : Option (Bool) :=
 (f44 N ).bind λ x1 =>
 zaU (zcf N) λ k8 =>
 zcA N x1 k8 N (0 : Int) [] [] [] []
def G10 (ds : List D) (d : D) : Prop := ∃ (N : Nat) (r : Bool), ds = [] /\ f10 N  = some r /\ d = bN r

end Go.Vc
namespace Go.Vc
open Go.Proofs
abbrev A105 : Prop := PureOK Tryz.prog 105 G105
abbrev A88 : Prop := PureOK Tryz.prog 88 G88
abbrev A108 : Prop := PureOK Tryz.prog 108 G108
abbrev A198 : Prop := CallOK Tryz.prog 198 (effPg zfM G198)
abbrev A200 : Prop := CallOK Tryz.prog 200 (effPg zfN G200)
abbrev A202 : Prop := CallOK Tryz.prog 202 (effPg zfO G202)
abbrev A204 : Prop := CallOK Tryz.prog 204 (effPg zfP G204)
abbrev A206 : Prop := CallOK Tryz.prog 206 (effPg zfQ G206)
abbrev A208 : Prop := CallOK Tryz.prog 208 (effPg zfR G208)
abbrev A64 : Prop := PureOK Tryz.prog 64 G64
abbrev A213 : Prop := CallOK Tryz.prog 213 (effPg zjn G213)
abbrev A197 : Prop := CallOK Tryz.prog 197 (effPg zfS G197)
abbrev A199 : Prop := CallOK Tryz.prog 199 (effPg zfT G199)
abbrev A201 : Prop := CallOK Tryz.prog 201 (effPg zfU G201)
abbrev A203 : Prop := CallOK Tryz.prog 203 (effPg zfV G203)
abbrev A205 : Prop := CallOK Tryz.prog 205 (effPg zfW G205)
abbrev A207 : Prop := CallOK Tryz.prog 207 (effPg zfX G207)
abbrev A209 : Prop := CallOK Tryz.prog 209 (effPg zfY G209)
abbrev A214 : Prop := CallOK Tryz.prog 214 (effPg zfZ G214)
abbrev A117 : Prop := PureOK Tryz.prog 117 G117
abbrev A143 : Prop := PureOK Tryz.prog 143 G143
abbrev A145 : Prop := PureOK Tryz.prog 145 G145
abbrev A132 : Prop := PureOK Tryz.prog 132 G132
abbrev A147 : Prop := PureOK Tryz.prog 147 G147
abbrev A148 : Prop := PureOK Tryz.prog 148 G148
abbrev A35 : Prop := PureOK Tryz.prog 35 G35
abbrev A44 : Prop := PureOK Tryz.prog 44 G44
abbrev A21 : Prop := CallOK Tryz.prog 21 (effPg zkw G21)
abbrev A104 : Prop := PureOK Tryz.prog 104 G104
abbrev A61 : Prop := PureOK Tryz.prog 61 G61
abbrev A210 : Prop := CallOK Tryz.prog 210 (effPg zf8 G210)
abbrev A212 : Prop := CallOK Tryz.prog 212 (effPg zf9 G212)
abbrev A215 : Prop := CallOK Tryz.prog 215 (effPg zg G215)
abbrev A211 : Prop := CallOK Tryz.prog 211 (effPg zga G211)
set_option maxRecDepth 20000 in
set_option maxHeartbeats 400000000 in
theorem zbj : (A105) /\ (A88) /\ (A108) /\ (∀ N : Nat, CallOK Tryz.prog 198 (effPg zfM (H198 N))) /\ (∀ N : Nat, CallOK Tryz.prog 200 (effPg zfN (H200 N))) /\ (∀ N : Nat, CallOK Tryz.prog 202 (effPg zfO (H202 N))) /\ (∀ N : Nat, CallOK Tryz.prog 204 (effPg zfP (H204 N))) /\ (∀ N : Nat, CallOK Tryz.prog 206 (effPg zfQ (H206 N))) /\ (∀ N : Nat, CallOK Tryz.prog 208 (effPg zfR (H208 N))) /\ (A64) /\ (A213) /\ (∀ N : Nat, CallOK Tryz.prog 197 (effPg zfS (H197 N))) /\ (∀ N : Nat, CallOK Tryz.prog 199 (effPg zfT (H199 N))) /\ (∀ N : Nat, CallOK Tryz.prog 201 (effPg zfU (H201 N))) /\ (∀ N : Nat, CallOK Tryz.prog 203 (effPg zfV (H203 N))) /\ (∀ N : Nat, CallOK Tryz.prog 205 (effPg zfW (H205 N))) /\ (∀ N : Nat, CallOK Tryz.prog 207 (effPg zfX (H207 N))) /\ (∀ N : Nat, CallOK Tryz.prog 209 (effPg zfY (H209 N))) /\ (∀ N : Nat, CallOK Tryz.prog 214 (effPg zfZ (H214 N))) /\ (A117) /\ (A143) /\ (A145) /\ (A132) /\ (A147) /\ (A148) /\ (A35) /\ (A44) /\ (∀ N : Nat, CallOK Tryz.prog 21 (effPg zkw (H21 N))) /\ (A104) /\ (A88 -> A61) /\ (A64 -> (∀ N : Nat, CallOK Tryz.prog 210 (effPg zf8 (H210 N)))) /\ (A213 -> (∀ N : Nat, CallOK Tryz.prog 212 (effPg zf9 (H212 N)))) /\ (A64 -> (∀ N : Nat, CallOK Tryz.prog 215 (effPg zg (H215 N)))) /\ (A213 -> (∀ N : Nat, CallOK Tryz.prog 211 (effPg zga (H211 N)))) := by
 refine ⟨?g0, ?g1, ?g2, ?g3, ?g4, ?g5, ?g6, ?g7, ?g8, ?g9, ?g10, ?g11, ?g12, ?g13, ?g14, ?g15, ?g16, ?g17, ?g18, ?g19, ?g20, ?g21, ?g22, ?g23, ?g24, ?g25, ?g26, ?g27, ?g28, ?g29, ?g30, ?g31, ?g32, ?g33⟩
 case' g0 =>
  refine zat (c := zap zai []) rfl tyOK (zad) [[0], [0]] 1 Tryz.func105 rfl rfl (by decide) (by kernel_rfl) ?_;rintro ds d ⟨N, a0, r, rfl, hF, rfl⟩ hok;clear hok;refine ⟨rfl, ?_⟩;show vc _ _ _ _ ⟨[(0, .dat (strN a0))], []⟩ _;unfold f105 at hF
 case' g1 =>
  refine zat (c := zap zai []) rfl tyOK (zad) [[0]] 1 Tryz.func88 rfl rfl (by decide) (by kernel_rfl) ?_;rintro ds d ⟨N, a0, r, rfl, hF, rfl⟩ hok;clear hok;refine ⟨rfl, ?_⟩;show vc _ _ _ _ ⟨[(0, .dat (strN a0))], []⟩ _;unfold f88 at hF
 case' g2 =>
  refine zat (c := zap zai []) rfl tyOK (zad) [[0]] 2 Tryz.func108 rfl rfl (by decide) (by kernel_rfl) ?_;rintro ds d ⟨N, a0, a1, r, rfl, hF, rfl⟩ hok;clear hok;refine ⟨rfl, ?_⟩;show vc _ _ _ _ ⟨[(0, .dat (zaL a0)), (1, .dat (A2iN.d a1))], []⟩ _;unfold f108 at hF
 case' g3 =>
  intro N;refine Nat.rec (motive := λ N => CallOK Tryz.prog 198 (effPg zfM (H198 N))) ?_ (λ N ih => ?_) N
  .exact zaC λ x y h => (by cases (show (none : Option (Int)) = some y from h))
  refine zav (c := zap zai [(198, true, effPg zfM (H198 N))]) rfl tyOK (zah (zaa Tryz.func198 rfl rfl) ih (zad)) 1000 zrL zqP Tryz.func198 rfl rfl (by kernel_rfl) rfl rfl rfl rfl rfl rfl rfl rfl (λ _ => rfl) (λ _ => rfl) (λ _ _ => ⟨rfl, rfl⟩) ?_;rintro ⟨s0, s1, s2, s3⟩ y hF;have hF : zqO (f198 N) N s0 s1 s2 s3 = some y := hF;show vc _ _ _ _ ⟨[(0, .dat (.agg [strN s0.name, iN s0.thick])), (1, .ptr 0 0)], [(0, .box [.mp 1, .mp 2, .mp 3]), (1, .fam [2] (encF strN StoneM.m s1) []), (2, .fam [] (encF strN EditionM.m s2) []), (3, .mp (encM strN bN s3))]⟩ _;unfold zqO at hF
 case' g4 =>
  intro N;refine Nat.rec (motive := λ N => CallOK Tryz.prog 200 (effPg zfN (H200 N))) ?_ (λ N ih => ?_) N
  .exact zaC λ x y h => (by cases (show (none : Option (Int)) = some y from h))
  refine zav (c := zap zai [(200, true, effPg zfN (H200 N))]) rfl tyOK (zah (zaa Tryz.func200 rfl rfl) ih (zad)) 1000 zrO zqR Tryz.func200 rfl rfl (by kernel_rfl) rfl rfl rfl rfl rfl rfl rfl rfl (λ _ => rfl) (λ _ => rfl) (λ _ _ => ⟨rfl, rfl⟩) ?_;rintro ⟨s0, s1, s2, s3⟩ y hF;have hF : zqQ (f200 N) N s0 s1 s2 s3 = some y := hF;show vc _ _ _ _ ⟨[(0, .dat (.agg [strN s0.name])), (1, .ptr 0 0)], [(0, .box [.mp 1, .mp 2, .mp 3]), (1, .fam [2] (encF strN StoneM.m s1) []), (2, .fam [] (encF strN EditionM.m s2) []), (3, .mp (encM strN bN s3))]⟩ _;unfold zqQ at hF
 case' g5 =>
  intro N;refine Nat.rec (motive := λ N => CallOK Tryz.prog 202 (effPg zfO (H202 N))) ?_ (λ N ih => ?_) N
  .exact zaC λ x y h => (by cases (show (none : Option (Int)) = some y from h))
  refine zav (c := zap zai [(202, true, effPg zfO (H202 N))]) rfl tyOK (zah (zaa Tryz.func202 rfl rfl) ih (zad)) 1000 zrR zqT Tryz.func202 rfl rfl (by kernel_rfl) rfl rfl rfl rfl rfl rfl rfl rfl (λ _ => rfl) (λ _ => rfl) (λ _ _ => ⟨rfl, rfl⟩) ?_;rintro ⟨s0, s1, s2, s3⟩ y hF;have hF : zqS (f202 N) N s0 s1 s2 s3 = some y := hF;show vc _ _ _ _ ⟨[(0, .dat (.agg [strN s0.stone, strN s0.edition])), (1, .ptr 0 0)], [(0, .box [.mp 1, .mp 2, .mp 3]), (1, .fam [2] (encF strN StoneM.m s1) []), (2, .fam [] (encF strN EditionM.m s2) []), (3, .mp (encM strN bN s3))]⟩ _;unfold zqS at hF
 case' g6 =>
  intro N;refine Nat.rec (motive := λ N => CallOK Tryz.prog 204 (effPg zfP (H204 N))) ?_ (λ N ih => ?_) N
  .exact zaC λ x y h => (by cases (show (none : Option (Int)) = some y from h))
  refine zav (c := zap zai [(204, true, effPg zfP (H204 N))]) rfl tyOK (zah (zaa Tryz.func204 rfl rfl) ih (zad)) 1000 zrU zqV Tryz.func204 rfl rfl (by kernel_rfl) rfl rfl rfl rfl rfl rfl rfl rfl (λ _ => rfl) (λ _ => rfl) (λ _ _ => ⟨rfl, rfl⟩) ?_;rintro ⟨s0, s1, s2, s3⟩ y hF;have hF : zqU (f204 N) N s0 s1 s2 s3 = some y := hF;show vc _ _ _ _ ⟨[(0, .dat (.agg [strN s0.edition, iN s0.n])), (1, .ptr 0 0)], [(0, .box [.mp 1, .mp 2, .mp 3]), (1, .fam [2] (encF strN StoneM.m s1) []), (2, .fam [] (encF strN EditionM.m s2) []), (3, .mp (encM strN bN s3))]⟩ _;unfold zqU at hF
 case' g7 =>
  intro N;refine Nat.rec (motive := λ N => CallOK Tryz.prog 206 (effPg zfQ (H206 N))) ?_ (λ N ih => ?_) N
  .exact zaC λ x y h => (by cases (show (none : Option (Int)) = some y from h))
  refine zav (c := zap zai [(206, true, effPg zfQ (H206 N))]) rfl tyOK (zah (zaa Tryz.func206 rfl rfl) ih (zad)) 1000 zrX zqX Tryz.func206 rfl rfl (by kernel_rfl) rfl rfl rfl rfl rfl rfl rfl rfl (λ _ => rfl) (λ _ => rfl) (λ _ _ => ⟨rfl, rfl⟩) ?_;rintro ⟨s0, s1, s2, s3⟩ y hF;have hF : zqW (f206 N) N s0 s1 s2 s3 = some y := hF;show vc _ _ _ _ ⟨[(0, .dat (.agg [strN s0.stone, iN s0.good, iN s0.spoilt])), (1, .ptr 0 0)], [(0, .box [.mp 1, .mp 2, .mp 3]), (1, .fam [2] (encF strN StoneM.m s1) []), (2, .fam [] (encF strN EditionM.m s2) []), (3, .mp (encM strN bN s3))]⟩ _;unfold zqW at hF
 case' g8 =>
  intro N;refine Nat.rec (motive := λ N => CallOK Tryz.prog 208 (effPg zfR (H208 N))) ?_ (λ N ih => ?_) N
  .exact zaC λ x y h => (by cases (show (none : Option (Int)) = some y from h))
  refine zav (c := zap zai [(208, true, effPg zfR (H208 N))]) rfl tyOK (zah (zaa Tryz.func208 rfl rfl) ih (zad)) 1000 zr0 zqZ Tryz.func208 rfl rfl (by kernel_rfl) rfl rfl rfl rfl rfl rfl rfl rfl (λ _ => rfl) (λ _ => rfl) (λ _ _ => ⟨rfl, rfl⟩) ?_;rintro ⟨s0, s1, s2, s3⟩ y hF;have hF : zqY (f208 N) N s0 s1 s2 s3 = some y := hF;show vc _ _ _ _ ⟨[(0, .dat (.agg [strN s0.edition])), (1, .ptr 0 0)], [(0, .box [.mp 1, .mp 2, .mp 3]), (1, .fam [2] (encF strN StoneM.m s1) []), (2, .fam [] (encF strN EditionM.m s2) []), (3, .mp (encM strN bN s3))]⟩ _;unfold zqY at hF
 case' g9 =>
  refine zat (c := zap zai []) rfl tyOK (zad) [[0]] 2 Tryz.func64 rfl rfl (by decide) (by kernel_rfl) ?_;rintro ds d ⟨N, a0, a1, r, rfl, hF, rfl⟩ hok;clear hok;refine ⟨rfl, ?_⟩;show vc _ _ _ _ ⟨[(0, .ep [strN a0.name, bN a0.closed, zaZ a0.places, iN a0.from_, iN a0.paper, iN a0.delivered, iN a0.spoilt]), (1, .dat (iN a1))], []⟩ _;unfold f64 at hF
 case' g10 =>
  refine zav (c := zap zai []) rfl tyOK (zad) 1000 ⟨[0], [0, 1], [], []⟩ ⟨[0], [0, 1], [], []⟩ Tryz.func213 rfl rfl (by kernel_rfl) rfl rfl rfl rfl rfl rfl rfl rfl (λ _ => rfl) (λ _ => rfl) (λ _ _ => ⟨rfl, rfl⟩) ?_;rintro ⟨i, es, x⟩ y ⟨hx, h1, h2⟩;replace h1 : 0 <= zku x := h1;replace h2 : zku x < x.places.length := h2;unfold zku zkt W at h1 h2;replace hx : getF es i = some x := hx;show vc _ _ _ _ ⟨[(0, .po 0 i 0)], [(0, .fam [] (encF strN EditionM.m es) [(i, 2, 1)]), (1, .row 3 1 (List.map iN x.places))]⟩ _
 case' g11 =>
  intro N;refine Nat.rec (motive := λ N => CallOK Tryz.prog 197 (effPg zfS (H197 N))) ?_ (λ N ih => ?_) N
  .exact zaC λ x y h => (by cases (show (none : Option (LS)) = some y from h))
  refine zav (c := zap zai [(197, true, effPg zfS (H197 N))]) rfl tyOK (zah (zaa Tryz.func197 rfl rfl) ih (zad)) 1000 zr3 zq1 Tryz.func197 rfl rfl (by kernel_rfl) rfl rfl rfl rfl rfl rfl rfl rfl (λ _ => rfl) (λ _ => rfl) (λ _ _ => ⟨rfl, rfl⟩) ?_;rintro ⟨s0, s1, s2, s3⟩ y hF;have hF : zq0 (f197 N) N s0 s1 s2 s3 = some y := hF;show vc _ _ _ _ ⟨[(0, .dat (.agg [strN s0.name, iN s0.thick])), (1, .ptr 0 0)], [(0, .box [.mp 1, .mp 2, .mp 3]), (1, .fam [2] (encF strN StoneM.m s1) []), (2, .fam [] (encF strN EditionM.m s2) []), (3, .mp (encM strN bN s3))]⟩ _;unfold zq0 at hF
 case' g12 =>
  intro N;refine Nat.rec (motive := λ N => CallOK Tryz.prog 199 (effPg zfT (H199 N))) ?_ (λ N ih => ?_) N
  .exact zaC λ x y h => (by cases (show (none : Option (LE)) = some y from h))
  refine zav (c := zap zai [(199, true, effPg zfT (H199 N))]) rfl tyOK (zah (zaa Tryz.func199 rfl rfl) ih (zad)) 1000 zr6 zq3 Tryz.func199 rfl rfl (by kernel_rfl) rfl rfl rfl rfl rfl rfl rfl rfl (λ _ => rfl) (λ _ => rfl) (λ _ _ => ⟨rfl, rfl⟩) ?_;rintro ⟨s0, s1, s2, s3⟩ y hF;have hF : zq2 (f199 N) N s0 s1 s2 s3 = some y := hF;show vc _ _ _ _ ⟨[(0, .dat (.agg [strN s0.name])), (1, .ptr 0 0)], [(0, .box [.mp 1, .mp 2, .mp 3]), (1, .fam [2] (encF strN StoneM.m s1) []), (2, .fam [] (encF strN EditionM.m s2) []), (3, .mp (encM strN bN s3))]⟩ _;unfold zq2 at hF
 case' g13 =>
  intro N;refine Nat.rec (motive := λ N => CallOK Tryz.prog 201 (effPg zfU (H201 N))) ?_ (λ N ih => ?_) N
  .exact zaC λ x y h => (by cases (show (none : Option (LS × LE)) = some y from h))
  refine zav (c := zap zai [(201, true, effPg zfU (H201 N))]) rfl tyOK (zah (zaa Tryz.func201 rfl rfl) ih (zad)) 1000 zr9 zq5 Tryz.func201 rfl rfl (by kernel_rfl) rfl rfl rfl rfl rfl rfl rfl rfl (λ _ => rfl) (λ _ => rfl) (λ _ _ => ⟨rfl, rfl⟩) ?_;rintro ⟨s0, s1, s2, s3⟩ y hF;have hF : zq4 (f201 N) N s0 s1 s2 s3 = some y := hF;show vc _ _ _ _ ⟨[(0, .dat (.agg [strN s0.stone, strN s0.edition])), (1, .ptr 0 0)], [(0, .box [.mp 1, .mp 2, .mp 3]), (1, .fam [2] (encF strN StoneM.m s1) []), (2, .fam [] (encF strN EditionM.m s2) []), (3, .mp (encM strN bN s3))]⟩ _;unfold zq4 at hF
 case' g14 =>
  intro N;refine Nat.rec (motive := λ N => CallOK Tryz.prog 203 (effPg zfV (H203 N))) ?_ (λ N ih => ?_) N
  .exact zaC λ x y h => (by cases (show (none : Option (LE)) = some y from h))
  refine zav (c := zap zai [(203, true, effPg zfV (H203 N))]) rfl tyOK (zah (zaa Tryz.func203 rfl rfl) ih (zad)) 1000 zsc zq7 Tryz.func203 rfl rfl (by kernel_rfl) rfl rfl rfl rfl rfl rfl rfl rfl (λ _ => rfl) (λ _ => rfl) (λ _ _ => ⟨rfl, rfl⟩) ?_;rintro ⟨s0, s1, s2, s3⟩ y hF;have hF : zq6 (f203 N) N s0 s1 s2 s3 = some y := hF;show vc _ _ _ _ ⟨[(0, .dat (.agg [strN s0.edition, iN s0.n])), (1, .ptr 0 0)], [(0, .box [.mp 1, .mp 2, .mp 3]), (1, .fam [2] (encF strN StoneM.m s1) []), (2, .fam [] (encF strN EditionM.m s2) []), (3, .mp (encM strN bN s3))]⟩ _;unfold zq6 at hF
 case' g15 =>
  intro N;refine Nat.rec (motive := λ N => CallOK Tryz.prog 205 (effPg zfW (H205 N))) ?_ (λ N ih => ?_) N
  .exact zaC λ x y h => (by cases (show (none : Option (LE)) = some y from h))
  refine zav (c := zap zai [(205, true, effPg zfW (H205 N))]) rfl tyOK (zah (zaa Tryz.func205 rfl rfl) ih (zad)) 1000 zsf zq9 Tryz.func205 rfl rfl (by kernel_rfl) rfl rfl rfl rfl rfl rfl rfl rfl (λ _ => rfl) (λ _ => rfl) (λ _ _ => ⟨rfl, rfl⟩) ?_;rintro ⟨s0, s1, s2, s3⟩ y hF;have hF : zq8 (f205 N) N s0 s1 s2 s3 = some y := hF;show vc _ _ _ _ ⟨[(0, .dat (.agg [strN s0.stone, iN s0.good, iN s0.spoilt])), (1, .ptr 0 0)], [(0, .box [.mp 1, .mp 2, .mp 3]), (1, .fam [2] (encF strN StoneM.m s1) []), (2, .fam [] (encF strN EditionM.m s2) []), (3, .mp (encM strN bN s3))]⟩ _;unfold zq8 at hF
 case' g16 =>
  intro N;refine Nat.rec (motive := λ N => CallOK Tryz.prog 207 (effPg zfX (H207 N))) ?_ (λ N ih => ?_) N
  .exact zaC λ x y h => (by cases (show (none : Option (LE)) = some y from h))
  refine zav (c := zap zai [(207, true, effPg zfX (H207 N))]) rfl tyOK (zah (zaa Tryz.func207 rfl rfl) ih (zad)) 1000 zsi zra Tryz.func207 rfl rfl (by kernel_rfl) rfl rfl rfl rfl rfl rfl rfl rfl (λ _ => rfl) (λ _ => rfl) (λ _ _ => ⟨rfl, rfl⟩) ?_;rintro ⟨s0, s1, s2, s3⟩ y hF;have hF : zr (f207 N) N s0 s1 s2 s3 = some y := hF;show vc _ _ _ _ ⟨[(0, .dat (.agg [strN s0.edition])), (1, .ptr 0 0)], [(0, .box [.mp 1, .mp 2, .mp 3]), (1, .fam [2] (encF strN StoneM.m s1) []), (2, .fam [] (encF strN EditionM.m s2) []), (3, .mp (encM strN bN s3))]⟩ _;unfold zr at hF
 case' g17 =>
  intro N;refine Nat.rec (motive := λ N => CallOK Tryz.prog 209 (effPg zfY (H209 N))) ?_ (λ N ih => ?_) N
  .exact zaC λ x y h => (by cases (show (none : Option (LE × LC)) = some y from h))
  refine zav (c := zap zai [(209, true, effPg zfY (H209 N))]) rfl tyOK (zah (zaa Tryz.func209 rfl rfl) ih (zad)) 1000 zsl zrc Tryz.func209 rfl rfl (by kernel_rfl) rfl rfl rfl rfl rfl rfl rfl rfl (λ _ => rfl) (λ _ => rfl) (λ _ _ => ⟨rfl, rfl⟩) ?_;rintro ⟨s0, s1, s2, s3⟩ y hF;have hF : zrb (f209 N) N s0 s1 s2 s3 = some y := hF;show vc _ _ _ _ ⟨[(0, .dat (.agg [strN s0.customer, strN s0.edition, iN s0.n])), (1, .ptr 0 0)], [(0, .box [.mp 1, .mp 2, .mp 3]), (1, .fam [2] (encF strN StoneM.m s1) []), (2, .fam [] (encF strN EditionM.m s2) []), (3, .mp (encM strN bN s3))]⟩ _;unfold zrb at hF
 case' g18 =>
  intro N;refine Nat.rec (motive := λ N => CallOK Tryz.prog 214 (effPg zfZ (H214 N))) ?_ (λ N ih => ?_) N
  .exact zaC λ x y h => (by cases (show (none : Option (LS × LE)) = some y from h))
  refine zav (c := zap zai [(214, true, effPg zfZ (H214 N))]) rfl tyOK (zah (zaa Tryz.func214 rfl rfl) ih (zad)) 1000 zso zre Tryz.func214 rfl rfl (by kernel_rfl) rfl rfl rfl rfl rfl rfl rfl rfl (λ _ => rfl) (λ _ => rfl) (λ _ _ => ⟨rfl, rfl⟩) ?_;rintro ⟨s0, s1, s2, s3⟩ y hF;have hF : zrd (f214 N) N s0 s1 s2 s3 = some y := hF;show vc _ _ _ _ ⟨[(0, .dat (.agg [strN s0.stone])), (1, .ptr 0 0)], [(0, .box [.mp 1, .mp 2, .mp 3]), (1, .fam [2] (encF strN StoneM.m s1) []), (2, .fam [] (encF strN EditionM.m s2) []), (3, .mp (encM strN bN s3))]⟩ _;unfold zrd at hF
 case' g19 =>
  refine zat (c := zap zai []) rfl tyOK (zad) [[0]] 3 Tryz.func117 rfl rfl (by decide) (by kernel_rfl) ?_;rintro ds d ⟨N, a0, a1, a2, r, rfl, hF, rfl⟩ hok;clear hok;refine ⟨rfl, ?_⟩;show vc _ _ _ _ ⟨[(0, .dat (iN a0)), (1, .dat (iN a1)), (2, .dat (iN a2))], []⟩ _;unfold f117 at hF
 case' g20 =>
  refine zat (c := zap zai [(166, false, zbd (zap zai []) Tryz.f166)]) rfl tyOK (zax (zaa Tryz.func166 rfl rfl) (CallOK.inl rfl tyOK (zad) Tryz.func166 (by kernel_rfl)) (zad)) [[1]] 1 Tryz.func143 rfl rfl (by decide) (by kernel_rfl) ?_;rintro ds d ⟨N, a0, r, rfl, hF, rfl⟩ hok;clear hok;refine ⟨rfl, ?_⟩;show vc _ _ _ _ ⟨[(0, .dat (zam a0))], []⟩ _;unfold f143 at hF
 case' g21 =>
  refine zat (c := zap zai []) rfl tyOK (zad) [[0]] 1 Tryz.func145 rfl rfl (by decide) (by kernel_rfl) ?_;rintro ds d ⟨N, a0, r, rfl, hF, rfl⟩ hok;clear hok;refine ⟨rfl, ?_⟩;show vc _ _ _ _ ⟨[(0, .dat (zam a0))], []⟩ _;unfold f145 at hF
 case' g22 =>
  refine zat (c := zap zai [(159, false, zbd (zap zai [(160, false, zbd (zap zai []) Tryz.f160)]) Tryz.f159)]) rfl tyOK (zax (zaa Tryz.func159 rfl rfl) (CallOK.inl rfl tyOK (zax (zaa Tryz.func160 rfl rfl) (CallOK.inl rfl tyOK (zad) Tryz.func160 (by kernel_rfl)) (zad)) Tryz.func159 (by kernel_rfl)) (zad)) [[0]] 3 Tryz.func132 rfl rfl (by decide) (by kernel_rfl) ?_;rintro ds d ⟨N, a0, a1, a2, r, rfl, hF, rfl⟩ hok;clear hok;refine ⟨rfl, ?_⟩;show vc _ _ _ _ ⟨[(0, .dat (zam a0)), (1, .dat (iN a1)), (2, .dat (zaZ a2))], []⟩ _;unfold f132 at hF
 case' g23 =>
  refine zat (c := zap zai []) rfl tyOK (zad) [[0]] 2 Tryz.func147 rfl rfl (by decide) (by kernel_rfl) ?_;rintro ds d ⟨N, a0, a1, r, rfl, hF, rfl⟩ hok;clear hok;refine ⟨rfl, ?_⟩;show vc _ _ _ _ ⟨[(0, .dat (zaZ a0)), (1, .dat (iN a1))], []⟩ _;unfold f147 at hF
 case' g24 =>
  refine zat (c := zap zai []) rfl tyOK (zad) [[0]] 2 Tryz.func148 rfl rfl (by decide) (by kernel_rfl) ?_;rintro ds d ⟨N, a0, a1, r, rfl, hF, rfl⟩ hok;clear hok;refine ⟨rfl, ?_⟩;show vc _ _ _ _ ⟨[(0, .dat (iN a0)), (1, .dat (iN a1))], []⟩ _;unfold f148 at hF
 case' g25 =>
  refine zat (c := zap zai []) rfl tyOK (zad) [[0]] 2 Tryz.func35 rfl rfl (by decide) (by kernel_rfl) ?_;rintro ds d ⟨N, a0, a1, r, rfl, hF, rfl⟩ hok;clear hok;refine ⟨rfl, ?_⟩;show vc _ _ _ _ ⟨[(0, .dat (zaZ a0)), (1, .dat (zaZ a1))], []⟩ _;unfold f35 at hF
 case' g26 =>
  refine zat (c := zap zai []) rfl tyOK (zad) [[1]] 0 Tryz.func44 rfl rfl (by decide) (by kernel_rfl) ?_;rintro ds d ⟨N, r, rfl, hF, rfl⟩ hok;clear hok;refine ⟨rfl, ?_⟩;show vc _ _ _ _ ⟨[], []⟩ _;unfold f44 at hF
 case' g27 =>
  intro N;refine Nat.rec (motive := λ N => CallOK Tryz.prog 21 (effPg zkw (H21 N))) ?_ (λ N ih => ?_) N
  .exact zaC λ x y h => (by cases (show (none : Option (LB)) = some y from h))
  refine zav (c := zap zai [(21, true, effPg zkw (H21 N)), (54, false, zbd (zap zai []) Tryz.f54), (53, false, zbd (zap zai []) Tryz.f53)]) rfl tyOK (zah (zaa Tryz.func21 rfl rfl) ih (zax (zaa Tryz.func54 rfl rfl) (CallOK.inl rfl tyOK (zad) Tryz.func54 (by kernel_rfl)) (zax (zaa Tryz.func53 rfl rfl) (CallOK.inl rfl tyOK (zad) Tryz.func53 (by kernel_rfl)) (zad)))) 1000 Srf21 zsx Tryz.func21 rfl rfl (by kernel_rfl) rfl rfl rfl rfl rfl rfl rfl rfl (λ _ => rfl) (λ _ => rfl) (λ _ _ => ⟨rfl, rfl⟩) ?_;rintro ⟨s0, s1, s2, s3⟩ y hF;have hF : f21b (f21 N) N s0 s1 s2 s3 = some y := hF;show vc _ _ _ _ ⟨[(0, .ptr 0 0)], [(0, .box [.ptr 1 0, .rs 2 (List.length s0)]), (1, .box [.mp 3, .mp 4, .mp 5]), (2, .row 9 1 (List.map strN s0)), (3, .fam [4] (encF strN StoneM.m s1) []), (4, .fam [] (encF strN EditionM.m s2) []), (5, .mp (encM strN bN s3))]⟩ _;unfold f21b at hF
 case' g28 =>
  refine zat (c := zap zai [(73, true, zb5 [[0], [0]] G73)]) rfl tyOK (zbp (zaa Tryz.func73 rfl rfl) P73 (zad)) [[1], [0]] 1 Tryz.func104 rfl rfl (by decide) (by kernel_rfl) ?_;rintro ds d ⟨N, a0, r, rfl, hF, rfl⟩ hok;clear hok;refine ⟨rfl, ?_⟩;show vc _ _ _ _ ⟨[(0, .dat (strN a0))], []⟩ _;unfold f104 at hF
 case' g29 =>
  intro P88;refine zat (c := zap zai [(88, true, lendPg [[0]] G88)]) rfl tyOK (zar (zaa Tryz.func88 rfl rfl) P88 (zad)) [[0]] 1 Tryz.func61 rfl rfl (by decide) (by kernel_rfl) ?_;rintro ds d ⟨N, a0, r, rfl, hF, rfl⟩ hok;clear hok;refine ⟨rfl, ?_⟩;show vc _ _ _ _ ⟨[(0, .dat (strN a0))], []⟩ _;unfold f61 at hF
 case' g30 =>
  intro P64;intro N;refine Nat.rec (motive := λ N => CallOK Tryz.prog 210 (effPg zf8 (H210 N))) ?_ (λ N ih => ?_) N
  .exact zaC λ x y h => (by cases (show (none : Option (Int)) = some y from h))
  refine zav (c := zap zai [(210, true, effPg zf8 (H210 N)), (64, true, lendPg [[0], [0]] G64)]) rfl tyOK (zah (zaa Tryz.func210 rfl rfl) ih (zar (zaa Tryz.func64 rfl rfl) P64 (zad))) 1000 zsA zrg Tryz.func210 rfl rfl (by kernel_rfl) rfl rfl rfl rfl rfl rfl rfl rfl (λ _ => rfl) (λ _ => rfl) (λ _ _ => ⟨rfl, rfl⟩) ?_;rintro ⟨s0, s1, s2, s3⟩ y hF;have hF : zrf (f210 N) N s0 s1 s2 s3 = some y := hF;show vc _ _ _ _ ⟨[(0, .dat (.agg [strN s0.customer, strN s0.edition, iN s0.n])), (1, .ptr 0 0)], [(0, .box [.mp 1, .mp 2, .mp 3]), (1, .fam [2] (encF strN StoneM.m s1) []), (2, .fam [] (encF strN EditionM.m s2) []), (3, .mp (encM strN bN s3))]⟩ _;unfold zrf at hF
 case' g31 =>
  intro P213;intro N;refine Nat.rec (motive := λ N => CallOK Tryz.prog 212 (effPg zf9 (H212 N))) ?_ (λ N ih => ?_) N
  .exact zaC λ x y h => (by cases (show (none : Option (Int)) = some y from h))
  refine zav (c := zap zai [(212, true, effPg zf9 (H212 N)), (213, true, preTake 2 (effPg zjn G213))]) rfl tyOK (zah (zaa Tryz.func212 rfl rfl) ih (zli (zaa Tryz.func213 rfl rfl) P213 (λ xs id => Local.effPg xs id) (zad))) 1000 zsE zri Tryz.func212 rfl rfl (by kernel_rfl) rfl rfl rfl rfl rfl rfl rfl rfl (λ _ => rfl) (λ _ => rfl) (λ _ _ => ⟨rfl, rfl⟩) ?_;rintro ⟨s0, s1, s2, s3⟩ y hF;have hF : zrh (f212 N) N s0 s1 s2 s3 = some y := hF;show vc _ _ _ _ ⟨[(0, .dat (.agg [strN s0.claiming.customer, strN s0.claiming.edition, iN s0.claiming.n])), (1, .ptr 0 0)], [(0, .box [.mp 1, .mp 2, .mp 3]), (1, .fam [2] (encF strN StoneM.m s1) []), (2, .fam [] (encF strN EditionM.m s2) []), (3, .mp (encM strN bN s3))]⟩ _;unfold zrh at hF
 case' g32 =>
  intro P64;intro N;refine Nat.rec (motive := λ N => CallOK Tryz.prog 215 (effPg zg (H215 N))) ?_ (λ N ih => ?_) N
  .exact zaC λ x y h => (by cases (show (none : Option (Int)) = some y from h))
  refine zav (c := zap zai [(215, true, effPg zg (H215 N)), (64, true, lendPg [[0], [0]] G64)]) rfl tyOK (zah (zaa Tryz.func215 rfl rfl) ih (zar (zaa Tryz.func64 rfl rfl) P64 (zad))) 1000 zsH zrk Tryz.func215 rfl rfl (by kernel_rfl) rfl rfl rfl rfl rfl rfl rfl rfl (λ _ => rfl) (λ _ => rfl) (λ _ _ => ⟨rfl, rfl⟩) ?_;rintro ⟨s0, s1, s2, s3⟩ y hF;have hF : zrj (f215 N) N s0 s1 s2 s3 = some y := hF;show vc _ _ _ _ ⟨[(0, .dat (.agg [strN s0.stone])), (1, .ptr 0 0)], [(0, .box [.mp 1, .mp 2, .mp 3]), (1, .fam [2] (encF strN StoneM.m s1) []), (2, .fam [] (encF strN EditionM.m s2) []), (3, .mp (encM strN bN s3))]⟩ _;unfold zrj at hF
 case' g33 =>
  intro P213;intro N;refine Nat.rec (motive := λ N => CallOK Tryz.prog 211 (effPg zga (H211 N))) ?_ (λ N ih => ?_) N
  .exact zaC λ x y h => (by cases (show (none : Option (LE)) = some y from h))
  refine zav (c := zap zai [(211, true, effPg zga (H211 N)), (213, true, preTake 2 (effPg zjn G213))]) rfl tyOK (zah (zaa Tryz.func211 rfl rfl) ih (zli (zaa Tryz.func213 rfl rfl) P213 (λ xs id => Local.effPg xs id) (zad))) 1000 zsK zrm Tryz.func211 rfl rfl (by kernel_rfl) rfl rfl rfl rfl rfl rfl rfl rfl (λ _ => rfl) (λ _ => rfl) (λ _ _ => ⟨rfl, rfl⟩) ?_;rintro ⟨s0, s1, s2, s3⟩ y hF;have hF : zrl (f211 N) N s0 s1 s2 s3 = some y := hF;show vc _ _ _ _ ⟨[(0, .dat (.agg [strN s0.claiming.customer, strN s0.claiming.edition, iN s0.claiming.n])), (1, .ptr 0 0)], [(0, .box [.mp 1, .mp 2, .mp 3]), (1, .fam [2] (encF strN StoneM.m s1) []), (2, .fam [] (encF strN EditionM.m s2) []), (3, .mp (encM strN bN s3))]⟩ _;unfold zrl at hF
 all_goals (repeat' (first
  | ((with_reducible first | refine q0 _ _ ?_ | refine q1 _ _ _ _ ?_ | refine q2 _ _ _ ?_); clear Q q0 q1 q2)
  | ((with_reducible first | refine zkS ?hx (λ Q q0 q1 q2 => ?_) | refine zhp ?hx (λ Q q0 q1 q2 => ?_) | refine zhn ?hx (λ Q q0 q1 q2 => ?_) | refine zeT ?hx (λ Q q0 q1 q2 => ?_)); (case hx => exact rfl); conv => whnf)
  | ((with_reducible first | refine zho ?hx ?_ | refine zeR ?hx ?_ | refine zdM ?hx ?_ | refine zeO ?hx ?_ | refine zeU ?hx ?_ | refine zdO ?hx ?_); (case hx => exact rfl))
  | ((with_reducible have hG := zca hF); (refine zc1 2 1206 rfl rfl rfl (by first | exact zas | exact za1 (by decide) zas) (by assumption) (by exact rfl) ?_); (have hF := hG); clear hG; dsimp only [St.settledF]; (first | ((with_reducible refine hR _ ?_); clear R hR) | ((with_reducible refine hL _ ?_); clear L hL)))
  | ((refine ze8 2 1303 hF rfl rfl rfl (by first | exact zas | exact za1 (by decide) zas) (by assumption) (by exact rfl) (by first | exact rfl | assumption | (symm; assumption) | omega) (by exact rfl) (λ q hq hF1 => ?_)); clear hF; (have hF := hF1); clear hF1; dsimp only [St.settledF]; (first | ((with_reducible refine hR _ ?_); clear R hR) | ((with_reducible refine hL _ ?_); clear L hL)))
  | ((refine ze8 2 1206 hF rfl rfl rfl (by first | exact zas | exact za1 (by decide) zas) (by assumption) (by exact rfl) (by first | exact rfl | assumption | (symm; assumption) | omega) (by exact rfl) (λ q hq hF1 => ?_)); clear hF; (have hF := hF1); clear hF1; dsimp only [St.settledF]; (first | ((with_reducible refine hR _ ?_); clear R hR) | ((with_reducible refine hL _ ?_); clear L hL)))
  | ((refine zlm 2 1303 hF rfl rfl rfl (by first | exact zas | exact za1 (by decide) zas) (by assumption) (by exact rfl) (by exact rfl) (λ q hq hF1 => ?_)); clear hF; (have hF := hF1); clear hF1; dsimp only [St.settledF]; (first | ((with_reducible refine hR _ ?_); clear R hR) | ((with_reducible refine hL _ ?_); clear L hL)))
  | ((refine zlm 2 1203 hF rfl rfl rfl (by first | exact zas | exact za1 (by decide) zas) (by assumption) (by exact rfl) (by exact rfl) (λ q hq hF1 => ?_)); clear hF; (have hF := hF1); clear hF1; dsimp only [St.settledF]; (first | ((with_reducible refine hR _ ?_); clear R hR) | ((with_reducible refine hL _ ?_); clear L hL)))
  | ((with_reducible refine zeA ?_); (first | ((first | refine zhX rfl ?hy (λ Q q0 q1 q2 => ?_) | refine ze5 rfl ?hy (λ Q q0 q1 q2 => ?_)); (case hy => first | assumption | exact notT (by assumption) | exact rfl); conv => whnf) | ((first | refine ze4 rfl ?hy ?_ | refine zdZ rfl ?hy ?_); (case hy => first | assumption | exact notF (by assumption) | exact rfl)) | (revert hF; (with_reducible first | refine zhY ?hx ?_ ?_ | refine ze6 ?hx ?_ ?_); (case hx => exact rfl); (intro hc hF Q q0 q1 q2; conv => whnf); rotate_left; (intro hc hF); rotate_right) | (revert hF; (with_reducible first | refine zhZ ?hx ?_ ?_ | refine ze7 ?hx ?_ ?_); (case hx => exact rfl); (intro hc hF); rotate_left; (intro hc hF Q q0 q1 q2; conv => whnf); rotate_right)))
  | ((with_reducible refine zqF ?_); (first | ((first | refine zo5 rfl ?hy (λ Q q0 q1 q2 => ?_) | refine znu rfl ?hy (λ Q q0 q1 q2 => ?_)); (case hy => first | assumption | exact notT (by assumption) | exact rfl); conv => whnf) | ((first | refine znt rfl ?hy ?_ | refine zm rfl ?hy ?_); (case hy => first | assumption | exact notF (by assumption) | exact rfl)) | (revert hF; (with_reducible first | refine zo6 ?hx ?_ ?_ | refine znv ?hx ?_ ?_); (case hx => exact rfl); (intro hc hF Q q0 q1 q2; conv => whnf); rotate_left; (intro hc hF); rotate_right) | (revert hF; (with_reducible first | refine zo7 ?hx ?_ ?_ | refine znw ?hx ?_ ?_); (case hx => exact rfl); (intro hc hF); rotate_left; (intro hc hF Q q0 q1 q2; conv => whnf); rotate_right)))
  | ((refine ze8 2 1306 hF rfl rfl rfl (by first | exact zas | exact za1 (by decide) zas) (by assumption) (by exact rfl) (by first | exact rfl | assumption | (symm; assumption) | omega) (by exact rfl) (λ q hq hF1 => ?_)); clear hF; (have hF := hF1); clear hF1; dsimp only [St.settledF]; (first | ((with_reducible refine hR _ ?_); clear R hR) | ((with_reducible refine hL _ ?_); clear L hL)))
  | ((refine ze8 2 1501 hF rfl rfl rfl (by first | exact zas | exact za1 (by decide) zas) (by assumption) (by exact rfl) (by first | exact rfl | assumption | (symm; assumption) | omega) (by exact rfl) (λ q hq hF1 => ?_)); clear hF; (have hF := hF1); clear hF1; dsimp only [St.settledF]; (first | ((with_reducible refine hR _ ?_); clear R hR) | ((with_reducible refine hL _ ?_); clear L hL)))
  | ((with_reducible refine zhW ?_); (first | ((refine zld rfl ?hy ?_); (case hy => first | assumption | exact notT (by assumption) | exact rfl)) | ((refine zle rfl ?hy ?_); (case hy => first | assumption | exact notF (by assumption) | exact rfl)) | (revert hF; (with_reducible refine zo4 ?hx ?_ ?_); (case hx => exact rfl); all_goals (intro hc hF))))
  | ((with_reducible have hG := zca hF); (refine zc1 2 1611 rfl rfl rfl (by first | exact zas | exact za1 (by decide) zas) (by assumption) (by exact rfl) ?_); (have hF := hG); clear hG; dsimp only [St.settledF]; (first | ((with_reducible refine hR _ ?_); clear R hR) | ((with_reducible refine hL _ ?_); clear L hL)))
  | ((with_reducible have hG := zca hF); (refine zc1 2 1603 rfl rfl rfl (by first | exact zas | exact za1 (by decide) zas) (by assumption) (by exact rfl) ?_); (have hF := hG); clear hG; dsimp only [St.settledF]; (first | ((with_reducible refine hR _ ?_); clear R hR) | ((with_reducible refine hL _ ?_); clear L hL)))
  | ((with_reducible have hG := zca hF); (refine zji 2 1403 rfl rfl rfl (by first | exact zas | exact za1 (by decide) zas) (by assumption) (by exact rfl) ?_); (have hF := hG); clear hG; dsimp only [St.settledF]; (first | ((with_reducible refine hR _ ?_); clear R hR) | ((with_reducible refine hL _ ?_); clear L hL)))
  | ((with_reducible have hG := zca hF); (refine zc1 2 2104 rfl rfl rfl (by first | exact zas | exact za1 (by decide) zas) (by assumption) (by exact rfl) ?_); (have hF := hG); clear hG; dsimp only [St.settledF]; (first | ((with_reducible refine hR _ ?_); clear R hR) | ((with_reducible refine hL _ ?_); clear L hL)))
  | ((with_reducible refine zhm ?_); (first | ((with_reducible refine hR _ ?_); clear R hR) | ((with_reducible refine hL _ ?_); clear L hL)))
  | ((with_reducible refine zeS ?_); (with_reducible refine hR _ _ ?hx ?_); (case hx => kernel_rfl); clear R hR)
  | ((with_reducible first | refine ze1 ?_ | refine idx2 (by assumption) ?_ | refine idx3 (by assumption) ?_ | refine ze2 ?_); conv => whnf)
  | (with_reducible first | refine zeN ?_ | refine zhi ?_ | refine zkR ?_ | refine zhj ?_ | refine zdN (λ R hR => ?_) | refine zdK ?_ | refine zc6 ?_ | refine zoo ?_ | refine zdL ?_ | refine zc7 ?_ | refine zc8 ?_ | refine zcC ?_ | refine zon ?_ | refine zom ?_)
  | ((with_reducible refine zaY [9, 3] ?hx ?_); (case hx => exact rfl))
  | ((with_reducible refine zaY [6] ?hx ?_); (case hx => exact rfl))
  | ((with_reducible refine zaY [] ?hx ?_); (case hx => exact rfl))
  | ((with_reducible refine zaY [7] ?hx ?_); (case hx => exact rfl))
  | ((with_reducible refine zaY [15, 10, 9] ?hx ?_); (case hx => exact rfl))
  | ((with_reducible refine zaY [15, 14] ?hx ?_); (case hx => exact rfl))
  | ((with_reducible refine zaY [104000000006] ?hx ?_); (case hx => exact rfl))
  | ((with_reducible refine zaY [3] ?hx ?_); (case hx => exact rfl))
  | ((with_reducible refine zaY [8] ?hx ?_); (case hx => exact rfl))
  | ((with_reducible refine zhk ?hx (λ R L hL hR => ?_)); (case hx => exact rfl))
  | ((with_reducible replace hF := isE hF); (dsimp only [zh2, znQ, zh3, zjl, zkr, zpP, znR, zks, zpR, znS, zf0, zlq, zf2, zh4, znU, zf1, zjo, zf4, zf5, znW, znY, zjp, zjq, zcL, zeD, zcb, zh5, zn0, zjr, zh6, zn2, zjs, zkv, zpU, zn3, zh7, zn5, zjt] at hF); first | ((with_reducible replace hF := chkE (e := zem ..) hF); rewrite [zem] at hF) | ((with_reducible replace hF := chkE (e := zg2 ..) hF); rewrite [zg2] at hF) | ((with_reducible replace hF := chkE (e := zen) hF); rewrite [zen] at hF) | ((with_reducible replace hF := chkE (e := zg3) hF); rewrite [zg3] at hF) | rewrite [zfL] at hF | rewrite [znP] at hF | rewrite [zpO] at hF | rewrite [zjm] at hF | rewrite [zpQ] at hF | rewrite [zd2] at hF | rewrite [zlp] at hF | rewrite [zd3] at hF | rewrite [zf3] at hF | rewrite [znT] at hF | rewrite [zd4] at hF | rewrite [zd5] at hF | rewrite [znV] at hF | rewrite [znX] at hF | rewrite [zbS] at hF | rewrite [zeC] at hF | rewrite [znZ] at hF | rewrite [zf6] at hF | rewrite [zn1] at hF | rewrite [zpT] at hF | rewrite [zf7] at hF | rewrite [zn4] at hF)
  | ((refine zfK rfl hx (by exact rfl) ?_); conv => whnf)
  | (revert hF; (refine G213.step rfl rfl rfl (by assumption) (by exact rfl) (by exact rfl) ?_); (intro y hy hF); conv => whnf)
  | ((with_reducible refine zhV ?_); first | ((with_reducible replace hF := toLp 0 1 hF); exact Lp.backI hF () ⟨_, rfl, rfl, rfl, rfl⟩ rfl) | ((with_reducible replace hF := toLp 0 2 hF); exact Lp.backI hF () ⟨_, rfl, rfl, rfl, rfl⟩ rfl) | ((with_reducible replace hF := toLp 0 4 hF); exact Lp.backI hF () ⟨_, rfl, rfl, rfl, rfl⟩ rfl) | ((with_reducible replace hF := toLp 1 2 hF); exact Lp.backI hF (_, ()) ⟨_, rfl, rfl, rfl, rfl⟩ (pr2 (by first | exact rfl | assumption | omega | (simp only [List.length_set]; done)) rfl)))
  | ((refine Or.inl ⟨_, zme, ?_⟩); conv => whnf)
  | ((with_reducible refine zfI ?_); first | ((with_reducible replace hF := toLp 0 0 hF); exact Lp.headI hF () ⟨_, rfl, rfl, rfl, rfl⟩ rfl) | ((with_reducible replace hF := toLp 0 1 hF); exact Lp.headI hF () ⟨_, rfl, rfl, rfl, rfl⟩ rfl) | ((with_reducible replace hF := toLp 1 1 hF); exact Lp.headI hF (_, ()) ⟨_, rfl, rfl, rfl, rfl⟩ (pr2 (by first | exact rfl | assumption | omega | (simp only [List.length_set]; done)) rfl)))
  | ((refine ⟨?h, ?_⟩; (case h => exact ⟨h1, h2⟩)); conv => whnf)
  | ((with_reducible refine zhT ?_); first | ((with_reducible replace hF := toLp 0 1 hF); ((refine Lp.loopI hF () rfl ⟨_, rfl, rfl, rfl, rfl⟩ rfl (λ _ => rfl) ?_); clear hF); (rintro n _ hF)) | ((with_reducible replace hF := toLp 0 2 hF); ((refine Lp.loopI hF () rfl ⟨_, rfl, rfl, rfl, rfl⟩ rfl (λ _ => rfl) ?_); clear hF); (rintro n ⟨_, _⟩ hF)) | ((with_reducible replace hF := toLp 0 4 hF); ((refine Lp.loopI hF () rfl ⟨_, rfl, rfl, rfl, rfl⟩ rfl (λ _ => rfl) ?_); clear hF); (rintro n ⟨_, _, _, _⟩ hF)) | ((with_reducible replace hF := toLp 1 2 hF); ((refine Lp.loopI hF (_, ()) rfl ⟨_, rfl, rfl, rfl, rfl⟩ (pr2 (by first | exact rfl | assumption | omega | (simp only [List.length_set]; done)) rfl) (λ _ => rfl) ?_); clear hF); (rintro n ⟨_, _⟩ hF)))
  | ((with_reducible refine zhU ?_); first | ((with_reducible replace hF := zeM 0 hF); ((refine Lp.cutI hF rfl rfl ?_ ?_) <;> clear hF); (intro hF); rotate_left; (rintro _ hF); rotate_right) | ((with_reducible replace hF := zeM 1 hF); ((refine Lp.cutI hF rfl rfl ?_ ?_) <;> clear hF); (intro hF); rotate_left; (rintro _ hF); rotate_right))
  | ((with_reducible have hI := znM hF); clear hI; revert hF; (refine zi9 ?_); intro x hF; conv => whnf)
  | (revert hF; (refine zqC (d := iN) ?hz ?_); (case hz => exact rfl); intro x hF; conv => whnf)
  | ((refine Or.inr ?_); (conv => whnf); (with_reducible refine zgZ (List.map bN (List.replicate 10 false)) ?hx ?_); (case hx => (unfold zlt; kernel_rfl)); conv => whnf)
  | ((with_reducible have hJ := isB hF); clear hJ; revert hF; (with_reducible first | refine G73.step ?hx ?_ | refine G88.lend ?hx ?_ | refine G64.lend ?hx ?_); (case hx => exact rfl); intro v hF; conv => whnf)
  | ((with_reducible refine znn hF ?_); (clear hF; intro hF; conv => whnf))
  | (revert hF; (refine zni ?_); intro x hF; conv => whnf)
  | (cases hF; (refine Or.inl ?_); (conv => whnf); exact ⟨rfl, rfl, rfl⟩)
  | ((with_reducible have hG := zk9 hF); clear hF; (first | (refine zno hG (by (try simp only [W]); omega) (λ x hF => ?_)) | (refine znp hG (λ _ => rfl) (by (try simp only [W]); omega) (λ x hF => ?_))); clear hG; conv => whnf)
  | ((with_reducible have hG := zjg hF); clear hF; (refine zjh (eM := StoneM.m) hG zbq ?hk ?hd ?he [.d default, .p 0 none, .d default] rfl ?_); (case hk => exact λ _ => rfl); (case hd => exact rfl); (case he => exact rfl); (conv => whnf); (refine ⟨⟨rfl, rfl, (by decide)⟩, ?_⟩); (refine znG hG rfl rfl rfl (λ q hq hF => ?_)); clear hG; conv => whnf)
  | ((with_reducible have hG := zjg hF); clear hF; (refine zjh (eM := EditionM.m) hG zbq ?hk ?hd ?he [.d default, .d default, .r 3 1 [], .d default, .d default, .d default, .d default, .m [], .d default] rfl ?_); (case hk => exact λ _ => rfl); (case hd => exact rfl); (case he => exact rfl); (conv => whnf); (refine ⟨⟨rfl, rfl, (by decide)⟩, ?_⟩); (refine znG hG rfl rfl rfl (λ q hq hF => ?_)); clear hG; conv => whnf)
  | (revert hF; (refine zfG (eK := strN) (eV := iN) zbq ?hk ?hz ?hd ?he ?_); (case hk => exact λ _ => rfl); (case hz => exact rfl); (case hd => exact rfl); (case he => exact rfl); intro x hF; conv => whnf)
  | ((refine zkp rfl (by assumption) (λ d hp => ?_)); (conv => whnf); (refine znE hF hp (by assumption) rfl (by exact rfl) (λ q hq hF1 => ?_)); clear hp; clear hF; (have hF := hF1); clear hF1; conv => whnf)
  | ((with_reducible have hG := zdi hF); clear hF; (first | ((refine zdy hG ?hn ?hs (λ q hF => ?_)); (case hn => first | exact rfl | assumption | omega); (case hs => exact rfl)) | ((refine zej (d := strN) hG ?hs (λ q hF => ?_)); (case hs => exact rfl)) | ((refine zek (d := strN) hG ?ho ?hn ?hs (λ q hF => ?_)); (case ho => exact rfl); (case hn => exact rfl); (case hs => exact rfl))); clear hG; conv => whnf)
  | (revert hF; (refine znk ?_); intro x hF; conv => whnf)
  | ((with_reducible have hG := zjb hF); clear hF; (first | (refine zl hG (by (try simp only [W]); omega) rfl rfl (λ q hF => ?_)) | (refine zla hG (λ _ => rfl) (by (try simp only [W]); omega) rfl rfl (λ q hF => ?_))); clear hG; conv => whnf)
  | (revert hF; (refine zk8 (eK := strN) (eV := iN) zbq ?hk ?hv ?hd ?he ?_); (case hk => exact λ _ => rfl); (case hv => exact rfl); (case hd => exact rfl); (case he => exact rfl); intro x hF; conv => whnf)
  | (revert hF; (refine zdj (eK := strN) (eM := StoneM.m) zbq ?hk ?hd ?he ?_ ?_); (case hk => exact λ _ => rfl); (case hd => exact rfl); (case he => exact rfl); (intro hl hF; conv => whnf); rotate_left; (intro i hl hF; conv => whnf); rotate_right)
  | (revert hF; (refine zfG (eK := strN) (eV := bN) zbq ?hk ?hz ?hd ?he ?_); (case hk => exact λ _ => rfl); (case hz => exact rfl); (case hd => exact rfl); (case he => exact rfl); intro x hF; conv => whnf)
  | (revert hF; (refine zk8 (eK := strN) (eV := bN) zbq ?hk ?hv ?hd ?he ?_); (case hk => exact λ _ => rfl); (case hv => exact rfl); (case hd => exact rfl); (case he => exact rfl); intro x hF; conv => whnf)
  | (revert hF; (refine zdj (eK := strN) (eM := EditionM.m) zbq ?hk ?hd ?he ?_ ?_); (case hk => exact λ _ => rfl); (case hd => exact rfl); (case he => exact rfl); (intro hl hF; conv => whnf); rotate_left; (intro i hl hF; conv => whnf); rotate_right)
  | (revert hF; (refine znF rfl ?_); intro x hF; conv => whnf)
  | ((refine zfK rfl (by assumption) (by exact rfl) ?_); conv => whnf)
  | ((with_reducible have hG := zje hF); clear hF; (obtain ⟨⟨x, hx, hF⟩⟩ := hG); first | ((refine zfK rfl hx (by exact rfl) ?_); conv => whnf) | skip)
  | ((refine Or.inr ?_); (conv => whnf); (refine zlk (by first | exact zas | exact za1 (by decide) zas) ?_); conv => whnf)
  | ((refine ⟨(by first | exact zas | exact za1 (by decide) zas), ?_⟩); conv => whnf)
  | (revert hF; (refine zjf ?_ ?_); (intro ho hF; conv => whnf); rotate_left; (intro j ho hF; conv => whnf); rotate_right)
  | ((refine zlj (by assumption) ?_); conv => whnf)
  | ((refine znC (by assumption) ?_); conv => whnf)
  | ((refine zg1 rfl (by assumption) (λ key => ?_)); conv => whnf)
  | ((refine znD hF (by assumption) rfl (by exact rfl) (λ q hq hF1 => ?_)); clear hF; (have hF := hF1); clear hF1; conv => whnf)
  | (revert hF; (with_reducible refine idx1 ?hn ?_); (case hn => first | exact rfl | exact (List.length_map _) | assumption | omega | simp); intro x hx hF; conv => whnf)
  | ((refine znI hF (by assumption) rfl (by first | exact rfl | assumption | omega) (by exact rfl) (by first | exact znH.trans zll | exact zll | exact rfl) (λ q hq hF1 => ?_)); clear hF; (have hF := hF1); clear hF1; conv => whnf)
  | ((with_reducible refine znq ?hn ?_); (case hn => first | exact rfl | assumption | omega); conv => whnf)
  | ((with_reducible have hG := ze3 hF); clear hF; (refine zhQ hG (λ q hF => ?_)); clear hG; conv => whnf)
  | ((with_reducible have hG := znf hF); clear hF; (refine Or.inl (Or.inl ?_)); (conv => whnf); (refine zkm hG ?hn (λ q hF => ?_); (case hn => first | exact rfl | assumption | omega)); clear hG; conv => whnf)
  | ((refine zaq 103 104000000 rfl rfl (Nat.le_of_ble_eq_true rfl) rfl (λ R hR => ?_)); (conv => whnf); (with_reducible refine hR _ ?ha ?_); (case ha => exact rfl); clear R hR)
  | ((with_reducible refine zlw ?_))
  | ((with_reducible have hG := zfF hF); clear hF; (refine zi8 hG ?hs (λ q hl hF => ?_)); (case hs => exact rfl); clear hG; conv => whnf)
  | ((with_reducible have hG := zdi hF); clear hF; (first | ((refine zdy hG ?hn ?hs (λ q hF => ?_)); (case hn => first | exact rfl | assumption | omega); (case hs => exact rfl)) | ((refine zej (d := iN) hG ?hs (λ q hF => ?_)); (case hs => exact rfl)) | ((refine zek (d := iN) hG ?ho ?hn ?hs (λ q hF => ?_)); (case ho => exact rfl); (case hn => exact rfl); (case hs => exact rfl))); clear hG; conv => whnf)
  | ((refine zaq 104000403 104000404000000 rfl rfl (Nat.le_of_ble_eq_true rfl) rfl (λ R hR => ?_)); (conv => whnf); (with_reducible refine hR _ ?ha ?_); (case ha => exact rfl); clear R hR)
  | ((refine ⟨?h, ?_⟩; (case h => (simp only [List.length_map]; done))); conv => whnf)
  | ((refine ⟨?hx, ?_⟩); (case hx => exact ⟨rfl, Nat.le_of_ble_eq_true rfl, rfl⟩); conv => whnf)
  | ((refine zko ?hn ?_); (case hn => first | exact rfl | (simp; done) | (simp; omega)); conv => whnf)
  | (show retE _ _ _ _ _ _ _ _; conv => whnf)
  | ((with_reducible refine zhP ?_); conv => whnf)
  | (revert hF; (refine zjj ?hn ?_ ?_); (case hn => first | exact rfl | assumption | omega); (intro hl hF; conv => whnf); rotate_left; (intro hF; conv => whnf); rotate_right)
  | ((refine Or.inl ?_); (conv => whnf); exact ⟨rfl, rfl, rfl⟩)
  | ((with_reducible refine zlb ?hx ?_); (case hx => first | exact rfl | assumption | exact notT (by assumption)); conv => whnf)
  | ((refine zaq 901 902000000 rfl rfl (Nat.le_of_ble_eq_true rfl) rfl (λ R hR => ?_)); (conv => whnf); (with_reducible refine hR _ ?ha ?_); (case ha => exact rfl); clear R hR)
  | ((with_reducible have hG := zhS hF); clear hF; (refine ⟨?hx, ?_⟩); (case hx => (first | exact of_decide_eq_true hG.1 | exact hG.1)); have hF := hG.2; clear hG; conv => whnf)
  | ((with_reducible refine zlc ?hx ?_); (case hx => first | exact rfl | assumption | exact notF (by assumption)); conv => whnf)
  | (revert hF; (with_reducible refine zaS ?_ ?_) <;> (intro hc hF; conv => whnf))
  | ((refine zaq 1101 1102000000 rfl rfl (Nat.le_of_ble_eq_true rfl) rfl (λ R hR => ?_)); (conv => whnf); (with_reducible refine hR _ ?ha ?_); (case ha => exact rfl); clear R hR)
  | ((refine zaq 1304 1305000000 rfl rfl (Nat.le_of_ble_eq_true rfl) rfl (λ R hR => ?_)); (conv => whnf); (with_reducible refine hR _ ?ha ?_); (case ha => exact rfl); clear R hR)
  | (show Kinl _ _ _ _ _ _ _; conv => whnf)
  | ((with_reducible refine zdY ?ha ?hb ?_); (case ha => exact rfl); (case hb => exact rfl); conv => whnf)
  | ((refine ⟨?hx, trivial⟩); (case hx => (cases hF; exact rfl)))
  | ((refine ⟨?hx, ?_⟩); (case hx => decide); conv => whnf)
  | with_reducible refine zlw ?_
  | (have hF : (none : Option _) = some _ := hF; cases hF)))
theorem P105 : A105 := zbj.1
theorem P88 : A88 := zbj.2.1
theorem P108 : A108 := zbj.2.2.1
theorem Q198 : ∀ N : Nat, CallOK Tryz.prog 198 (effPg zfM (H198 N)) := zbj.2.2.2.1
theorem P198 : A198 := za4 Q198
theorem Q200 : ∀ N : Nat, CallOK Tryz.prog 200 (effPg zfN (H200 N)) := zbj.2.2.2.2.1
theorem P200 : A200 := za4 Q200
theorem Q202 : ∀ N : Nat, CallOK Tryz.prog 202 (effPg zfO (H202 N)) := zbj.2.2.2.2.2.1
theorem P202 : A202 := za4 Q202
theorem Q204 : ∀ N : Nat, CallOK Tryz.prog 204 (effPg zfP (H204 N)) := zbj.2.2.2.2.2.2.1
theorem P204 : A204 := za4 Q204
theorem Q206 : ∀ N : Nat, CallOK Tryz.prog 206 (effPg zfQ (H206 N)) := zbj.2.2.2.2.2.2.2.1
theorem P206 : A206 := za4 Q206
theorem Q208 : ∀ N : Nat, CallOK Tryz.prog 208 (effPg zfR (H208 N)) := zbj.2.2.2.2.2.2.2.2.1
theorem P208 : A208 := za4 Q208
theorem P64 : A64 := zbj.2.2.2.2.2.2.2.2.2.1
theorem P213 : A213 := zbj.2.2.2.2.2.2.2.2.2.2.1
theorem Q197 : ∀ N : Nat, CallOK Tryz.prog 197 (effPg zfS (H197 N)) := zbj.2.2.2.2.2.2.2.2.2.2.2.1
theorem P197 : A197 := za4 Q197
theorem Q199 : ∀ N : Nat, CallOK Tryz.prog 199 (effPg zfT (H199 N)) := zbj.2.2.2.2.2.2.2.2.2.2.2.2.1
theorem P199 : A199 := za4 Q199
theorem Q201 : ∀ N : Nat, CallOK Tryz.prog 201 (effPg zfU (H201 N)) := zbj.2.2.2.2.2.2.2.2.2.2.2.2.2.1
theorem P201 : A201 := za4 Q201
theorem Q203 : ∀ N : Nat, CallOK Tryz.prog 203 (effPg zfV (H203 N)) := zbj.2.2.2.2.2.2.2.2.2.2.2.2.2.2.1
theorem P203 : A203 := za4 Q203
theorem Q205 : ∀ N : Nat, CallOK Tryz.prog 205 (effPg zfW (H205 N)) := zbj.2.2.2.2.2.2.2.2.2.2.2.2.2.2.2.1
theorem P205 : A205 := za4 Q205
theorem Q207 : ∀ N : Nat, CallOK Tryz.prog 207 (effPg zfX (H207 N)) := zbj.2.2.2.2.2.2.2.2.2.2.2.2.2.2.2.2.1
theorem P207 : A207 := za4 Q207
theorem Q209 : ∀ N : Nat, CallOK Tryz.prog 209 (effPg zfY (H209 N)) := zbj.2.2.2.2.2.2.2.2.2.2.2.2.2.2.2.2.2.1
theorem P209 : A209 := za4 Q209
theorem Q214 : ∀ N : Nat, CallOK Tryz.prog 214 (effPg zfZ (H214 N)) := zbj.2.2.2.2.2.2.2.2.2.2.2.2.2.2.2.2.2.2.1
theorem P214 : A214 := za4 Q214
theorem P117 : A117 := zbj.2.2.2.2.2.2.2.2.2.2.2.2.2.2.2.2.2.2.2.1
theorem P143 : A143 := zbj.2.2.2.2.2.2.2.2.2.2.2.2.2.2.2.2.2.2.2.2.1
theorem P145 : A145 := zbj.2.2.2.2.2.2.2.2.2.2.2.2.2.2.2.2.2.2.2.2.2.1
theorem P132 : A132 := zbj.2.2.2.2.2.2.2.2.2.2.2.2.2.2.2.2.2.2.2.2.2.2.1
theorem P147 : A147 := zbj.2.2.2.2.2.2.2.2.2.2.2.2.2.2.2.2.2.2.2.2.2.2.2.1
theorem P148 : A148 := zbj.2.2.2.2.2.2.2.2.2.2.2.2.2.2.2.2.2.2.2.2.2.2.2.2.1
theorem P35 : A35 := zbj.2.2.2.2.2.2.2.2.2.2.2.2.2.2.2.2.2.2.2.2.2.2.2.2.2.1
theorem P44 : A44 := zbj.2.2.2.2.2.2.2.2.2.2.2.2.2.2.2.2.2.2.2.2.2.2.2.2.2.2.1
theorem Q21 : ∀ N : Nat, CallOK Tryz.prog 21 (effPg zkw (H21 N)) := zbj.2.2.2.2.2.2.2.2.2.2.2.2.2.2.2.2.2.2.2.2.2.2.2.2.2.2.2.1
theorem P21 : A21 := za4 Q21
theorem P104 : A104 := zbj.2.2.2.2.2.2.2.2.2.2.2.2.2.2.2.2.2.2.2.2.2.2.2.2.2.2.2.2.1
theorem P61 : A61 := zbj.2.2.2.2.2.2.2.2.2.2.2.2.2.2.2.2.2.2.2.2.2.2.2.2.2.2.2.2.2.1 P88
theorem Q210 : ∀ N : Nat, CallOK Tryz.prog 210 (effPg zf8 (H210 N)) := zbj.2.2.2.2.2.2.2.2.2.2.2.2.2.2.2.2.2.2.2.2.2.2.2.2.2.2.2.2.2.2.1 P64
theorem P210 : A210 := za4 Q210
theorem Q212 : ∀ N : Nat, CallOK Tryz.prog 212 (effPg zf9 (H212 N)) := zbj.2.2.2.2.2.2.2.2.2.2.2.2.2.2.2.2.2.2.2.2.2.2.2.2.2.2.2.2.2.2.2.1 P213
theorem P212 : A212 := za4 Q212
theorem Q215 : ∀ N : Nat, CallOK Tryz.prog 215 (effPg zg (H215 N)) := zbj.2.2.2.2.2.2.2.2.2.2.2.2.2.2.2.2.2.2.2.2.2.2.2.2.2.2.2.2.2.2.2.2.1 P64
theorem P215 : A215 := za4 Q215
theorem Q211 : ∀ N : Nat, CallOK Tryz.prog 211 (effPg zga (H211 N)) := zbj.2.2.2.2.2.2.2.2.2.2.2.2.2.2.2.2.2.2.2.2.2.2.2.2.2.2.2.2.2.2.2.2.2 P213
theorem P211 : A211 := za4 Q211

end Go.Vc
namespace Go.Vc
open Go.Proofs
abbrev A116 : Prop := PureOK Tryz.prog 116 G116
abbrev A119 : Prop := PureOK Tryz.prog 119 G119
abbrev A107 : Prop := PureOK Tryz.prog 107 G107
abbrev A158 : Prop := PureOK Tryz.prog 158 G158
abbrev A84 : Prop := PureOK Tryz.prog 84 G84
abbrev A32 : Prop := CallOK Tryz.prog 32 (effPg zjv G32)
abbrev A33 : Prop := CallOK Tryz.prog 33 (effPg zkx G33)
abbrev A34 : Prop := CallOK Tryz.prog 34 (effPg zjw G34)
abbrev A36 : Prop := CallOK Tryz.prog 36 (effPg zjx G36)
abbrev A40 : Prop := CallOK Tryz.prog 40 (effPg zky G40)
abbrev A79 : Prop := PureOK Tryz.prog 79 G79
abbrev A146 : Prop := PureOK Tryz.prog 146 G146
abbrev A131 : Prop := PureOK Tryz.prog 131 G131
abbrev A51 : Prop := CallOK Tryz.prog 51 (effPg zjB G51)
set_option maxRecDepth 20000 in
set_option maxHeartbeats 400000000 in
theorem zd8 : (A116) /\ (A119) /\ (A107) /\ (A116 -> A158) /\ (A119 -> A84) /\ (∀ N : Nat, CallOK Tryz.prog 32 (effPg zjv (H32 N))) /\ (∀ N : Nat, CallOK Tryz.prog 33 (effPg zkx (H33 N))) /\ (∀ N : Nat, CallOK Tryz.prog 34 (effPg zjw (H34 N))) /\ (∀ N : Nat, CallOK Tryz.prog 36 (effPg zjx (H36 N))) /\ (∀ N : Nat, CallOK Tryz.prog 40 (effPg zky (H40 N))) /\ (A107 -> A79) /\ (A158 -> A146) /\ (A158 -> A116 -> A131) /\ (A79 -> (∀ N : Nat, CallOK Tryz.prog 51 (effPg zjB (H51 N)))) := by
 refine ⟨?g0, ?g1, ?g2, ?g3, ?g4, ?g5, ?g6, ?g7, ?g8, ?g9, ?g10, ?g11, ?g12, ?g13⟩
 case' g0 =>
  refine zat (c := zap zai [(142, false, zbd (zap zai [(165, false, zbd (zap zai [(144, false, zbd (zap zai [(117, true, lendPg [[0], [0], [0]] G117)]) Tryz.f144)]) Tryz.f165)]) Tryz.f142), (140, false, zbd (zap zai [(164, false, zbd (zap zai [(141, false, zbd (zap zai []) Tryz.f141)]) Tryz.f164)]) Tryz.f140), (145, true, lendPg [[1]] G145), (143, true, zb5 [[1]] G143), (117, true, lendPg [[0], [0], [0]] G117)]) rfl tyOK (zax (zaa Tryz.func142 rfl rfl) (CallOK.inl rfl tyOK (zax (zaa Tryz.func165 rfl rfl) (CallOK.inl rfl tyOK (zax (zaa Tryz.func144 rfl rfl) (CallOK.inl rfl tyOK (zar (zaa Tryz.func117 rfl rfl) P117 (zad)) Tryz.func144 (by kernel_rfl)) (zad)) Tryz.func165 (by kernel_rfl)) (zad)) Tryz.func142 (by kernel_rfl)) (zax (zaa Tryz.func140 rfl rfl) (CallOK.inl rfl tyOK (zax (zaa Tryz.func164 rfl rfl) (CallOK.inl rfl tyOK (zax (zaa Tryz.func141 rfl rfl) (CallOK.inl rfl tyOK (zad) Tryz.func141 (by kernel_rfl)) (zad)) Tryz.func164 (by kernel_rfl)) (zad)) Tryz.func140 (by kernel_rfl)) (zar (zaa Tryz.func145 rfl rfl) P145 (zbp (zaa Tryz.func143 rfl rfl) P143 (zar (zaa Tryz.func117 rfl rfl) P117 (zad)))))) [[0]] 1 Tryz.func116 rfl rfl (by decide) (by kernel_rfl) ?_;rintro ds d ⟨N, a0, r, rfl, hF, rfl⟩ hok;clear hok;refine ⟨rfl, ?_⟩;show vc _ _ _ _ ⟨[(0, .dat (zam a0))], []⟩ _;unfold f116 at hF
 case' g1 =>
  refine zat (c := zap zai [(148, true, lendPg [[0], [0]] G148), (117, true, lendPg [[0], [0], [0]] G117)]) rfl tyOK (zar (zaa Tryz.func148 rfl rfl) P148 (zar (zaa Tryz.func117 rfl rfl) P117 (zad))) [[1], [0]] 2 Tryz.func119 rfl rfl (by decide) (by kernel_rfl) ?_;rintro ds d ⟨N, a0, a1, r, rfl, hF, rfl⟩ hok;clear hok;refine ⟨rfl, ?_⟩;show vc _ _ _ _ ⟨[(0, .dat (iN a0)), (1, .dat (iN a1))], []⟩ _;unfold f119 at hF
 case' g2 =>
  refine zat (c := zap zai [(61, true, lendPg [[0]] G61)]) rfl tyOK (zar (zaa Tryz.func61 rfl rfl) P61 (zad)) [[0]] 1 Tryz.func107 rfl rfl (by decide) (by kernel_rfl) ?_;rintro ds d ⟨N, a0, r, rfl, hF, rfl⟩ hok;clear hok;refine ⟨rfl, ?_⟩;show vc _ _ _ _ ⟨[(0, .dat (strN a0))], []⟩ _;unfold f107 at hF
 case' g3 =>
  intro P116;refine zat (c := zap zai [(142, false, zbd (zap zai [(165, false, zbd (zap zai [(174, false, zbd (zap zai [(117, true, lendPg [[0], [0], [0]] G117)]) Tryz.f174)]) Tryz.f165)]) Tryz.f142), (116, true, lendPg [[1]] G116)]) rfl tyOK (zax (zaa Tryz.func142 rfl rfl) (CallOK.inl rfl tyOK (zax (zaa Tryz.func165 rfl rfl) (CallOK.inl rfl tyOK (zax (zaa Tryz.func174 rfl rfl) (CallOK.inl rfl tyOK (zar (zaa Tryz.func117 rfl rfl) P117 (zad)) Tryz.func174 (by kernel_rfl)) (zad)) Tryz.func165 (by kernel_rfl)) (zad)) Tryz.func142 (by kernel_rfl)) (zar (zaa Tryz.func116 rfl rfl) P116 (zad))) [[0]] 2 Tryz.func158 rfl rfl (by decide) (by kernel_rfl) ?_;rintro ds d ⟨N, a0, a1, r, rfl, hF, rfl⟩ hok;clear hok;refine ⟨rfl, ?_⟩;show vc _ _ _ _ ⟨[(0, .dat (zam a0)), (1, .dat (zaZ a1))], []⟩ _;unfold f158 at hF
 case' g4 =>
  intro P119;refine zat (c := zap zai [(119, true, zb5 [[0], [0]] G119)]) rfl tyOK (zbp (zaa Tryz.func119 rfl rfl) P119 (zad)) [[1]] 0 Tryz.func84 rfl rfl (by decide) (by kernel_rfl) ?_;rintro ds d ⟨N, r, rfl, hF, rfl⟩ hok;clear hok;refine ⟨rfl, ?_⟩;show vc _ _ _ _ ⟨[], []⟩ _;unfold f84 at hF
 case' g5 =>
  intro N;refine Nat.rec (motive := λ N => CallOK Tryz.prog 32 (effPg zjv (H32 N))) ?_ (λ N ih => ?_) N
  .exact zaC λ x y h => (by cases (show (none : Option (Int × ByteArray × Int)) = some y from h))
  refine zav (c := zap zai [(32, true, effPg zjv (H32 N)), (53, false, zbd (zap zai []) Tryz.f53), (61, true, lendPg [[0]] G61)]) rfl tyOK (zah (zaa Tryz.func32 rfl rfl) ih (zax (zaa Tryz.func53 rfl rfl) (CallOK.inl rfl tyOK (zad) Tryz.func53 (by kernel_rfl)) (zar (zaa Tryz.func61 rfl rfl) P61 (zad)))) 1000 Srf32 zsP Tryz.func32 rfl rfl (by kernel_rfl) rfl rfl rfl rfl rfl rfl rfl rfl (λ _ => rfl) (λ _ => rfl) (λ _ _ => ⟨rfl, rfl⟩) ?_;rintro ⟨s0, s1, s2, s3, s4⟩ y hF;have hF : f32b (f32 N) N s0 s1 s2 s3 s4 = some y := hF;show vc _ _ _ _ ⟨[(0, .ptr 0 0), (1, .dat (strN s0))], [(0, .box [.ptr 1 0, .rs 2 (List.length s1)]), (1, .box [.mp 3, .mp 4, .mp 5]), (2, .row 9 1 (List.map strN s1)), (3, .fam [4] (encF strN StoneM.m s2) []), (4, .fam [] (encF strN EditionM.m s3) []), (5, .mp (encM strN bN s4))]⟩ _;unfold f32b at hF
 case' g6 =>
  intro N;refine Nat.rec (motive := λ N => CallOK Tryz.prog 33 (effPg zkx (H33 N))) ?_ (λ N ih => ?_) N
  .exact zaC λ x y h => (by cases (show (none : Option ((List Int) × Int)) = some y from h))
  refine zav (c := zap zai [(33, true, effPg zkx (H33 N)), (63, false, zbd (zap zai []) Tryz.f63), (62, false, zbd (zap zai [(53, false, zbd (zap zai []) Tryz.f53), (61, true, lendPg [[0]] G61)]) Tryz.f62)]) rfl tyOK (zah (zaa Tryz.func33 rfl rfl) ih (zax (zaa Tryz.func63 rfl rfl) (CallOK.inl rfl tyOK (zad) Tryz.func63 (by kernel_rfl)) (zax (zaa Tryz.func62 rfl rfl) (CallOK.inl rfl tyOK (zax (zaa Tryz.func53 rfl rfl) (CallOK.inl rfl tyOK (zad) Tryz.func53 (by kernel_rfl)) (zar (zaa Tryz.func61 rfl rfl) P61 (zad))) Tryz.func62 (by kernel_rfl)) (zad)))) 1000 Srf33 zsQ Tryz.func33 rfl rfl (by kernel_rfl) rfl rfl rfl rfl rfl rfl rfl rfl (λ _ => rfl) (λ _ => rfl) (λ _ _ => ⟨rfl, rfl⟩) ?_;rintro ⟨s0, s1, s2, s3, s4⟩ y hF;have hF : f33b (f33 N) N s0 s1 s2 s3 s4 = some y := hF;show vc _ _ _ _ ⟨[(0, .ptr 0 0), (1, .dat (strN s0))], [(0, .box [.ptr 1 0, .rs 2 (List.length s1)]), (1, .box [.mp 3, .mp 4, .mp 5]), (2, .row 9 1 (List.map strN s1)), (3, .fam [4] (encF strN StoneM.m s2) []), (4, .fam [] (encF strN EditionM.m s3) []), (5, .mp (encM strN bN s4))]⟩ _;unfold f33b at hF
 case' g7 =>
  intro N;refine Nat.rec (motive := λ N => CallOK Tryz.prog 34 (effPg zjw (H34 N))) ?_ (λ N ih => ?_) N
  .exact zaC λ x y h => (by cases (show (none : Option (Tally × Int)) = some y from h))
  refine zav (c := zap zai [(34, true, effPg zjw (H34 N)), (62, false, zbd (zap zai [(53, false, zbd (zap zai []) Tryz.f53), (61, true, lendPg [[0]] G61)]) Tryz.f62), (64, true, lendPg [[0], [0]] G64)]) rfl tyOK (zah (zaa Tryz.func34 rfl rfl) ih (zax (zaa Tryz.func62 rfl rfl) (CallOK.inl rfl tyOK (zax (zaa Tryz.func53 rfl rfl) (CallOK.inl rfl tyOK (zad) Tryz.func53 (by kernel_rfl)) (zar (zaa Tryz.func61 rfl rfl) P61 (zad))) Tryz.func62 (by kernel_rfl)) (zar (zaa Tryz.func64 rfl rfl) P64 (zad)))) 1000 Srf34 zsR Tryz.func34 rfl rfl (by kernel_rfl) rfl rfl rfl rfl rfl rfl rfl rfl (λ _ => rfl) (λ _ => rfl) (λ _ _ => ⟨rfl, rfl⟩) ?_;rintro ⟨s0, s1, s2, s3, s4⟩ y hF;have hF : f34b (f34 N) N s0 s1 s2 s3 s4 = some y := hF;show vc _ _ _ _ ⟨[(0, .ptr 0 0), (1, .dat (strN s0))], [(0, .box [.ptr 1 0, .rs 2 (List.length s1)]), (1, .box [.mp 3, .mp 4, .mp 5]), (2, .row 9 1 (List.map strN s1)), (3, .fam [4] (encF strN StoneM.m s2) []), (4, .fam [] (encF strN EditionM.m s3) []), (5, .mp (encM strN bN s4))]⟩ _;unfold f34b at hF
 case' g8 =>
  intro N;refine Nat.rec (motive := λ N => CallOK Tryz.prog 36 (effPg zjx (H36 N))) ?_ (λ N ih => ?_) N
  .exact zaC λ x y h => (by cases (show (none : Option (Int × Int)) = some y from h))
  refine zav (c := zap zai [(36, true, effPg zjx (H36 N)), (62, false, zbd (zap zai [(53, false, zbd (zap zai []) Tryz.f53), (61, true, lendPg [[0]] G61)]) Tryz.f62), (53, false, zbd (zap zai []) Tryz.f53), (61, true, lendPg [[0]] G61)]) rfl tyOK (zah (zaa Tryz.func36 rfl rfl) ih (zax (zaa Tryz.func62 rfl rfl) (CallOK.inl rfl tyOK (zax (zaa Tryz.func53 rfl rfl) (CallOK.inl rfl tyOK (zad) Tryz.func53 (by kernel_rfl)) (zar (zaa Tryz.func61 rfl rfl) P61 (zad))) Tryz.func62 (by kernel_rfl)) (zax (zaa Tryz.func53 rfl rfl) (CallOK.inl rfl tyOK (zad) Tryz.func53 (by kernel_rfl)) (zar (zaa Tryz.func61 rfl rfl) P61 (zad))))) 1000 Srf36 zsS Tryz.func36 rfl rfl (by kernel_rfl) rfl rfl rfl rfl rfl rfl rfl rfl (λ _ => rfl) (λ _ => rfl) (λ _ _ => ⟨rfl, rfl⟩) ?_;rintro ⟨s0, s1, s2, s3, s4, s5⟩ y hF;have hF : f36b (f36 N) N s0 s1 s2 s3 s4 s5 = some y := hF;show vc _ _ _ _ ⟨[(0, .ptr 0 0), (1, .dat (strN s0)), (2, .dat (strN s1))], [(0, .box [.ptr 1 0, .rs 2 (List.length s2)]), (1, .box [.mp 3, .mp 4, .mp 5]), (2, .row 9 1 (List.map strN s2)), (3, .fam [4] (encF strN StoneM.m s3) []), (4, .fam [] (encF strN EditionM.m s4) []), (5, .mp (encM strN bN s5))]⟩ _;unfold f36b at hF
 case' g9 =>
  intro N;refine Nat.rec (motive := λ N => CallOK Tryz.prog 40 (effPg zky (H40 N))) ?_ (λ N ih => ?_) N
  .exact zaC λ x y h => (by cases (show (none : Option (Int × Int)) = some y from h))
  refine zav (c := zap zai [(40, true, effPg zky (H40 N)), (62, false, zbd (zap zai [(53, false, zbd (zap zai []) Tryz.f53), (61, true, lendPg [[0]] G61)]) Tryz.f62), (64, true, lendPg [[0], [0]] G64)]) rfl tyOK (zah (zaa Tryz.func40 rfl rfl) ih (zax (zaa Tryz.func62 rfl rfl) (CallOK.inl rfl tyOK (zax (zaa Tryz.func53 rfl rfl) (CallOK.inl rfl tyOK (zad) Tryz.func53 (by kernel_rfl)) (zar (zaa Tryz.func61 rfl rfl) P61 (zad))) Tryz.func62 (by kernel_rfl)) (zar (zaa Tryz.func64 rfl rfl) P64 (zad)))) 1000 Srf40 zsT Tryz.func40 rfl rfl (by kernel_rfl) rfl rfl rfl rfl rfl rfl rfl rfl (λ _ => rfl) (λ _ => rfl) (λ _ _ => ⟨rfl, rfl⟩) ?_;rintro ⟨s0, s1, s2, s3, s4⟩ y hF;have hF : f40b (f40 N) N s0 s1 s2 s3 s4 = some y := hF;show vc _ _ _ _ ⟨[(0, .ptr 0 0), (1, .dat (strN s0))], [(0, .box [.ptr 1 0, .rs 2 (List.length s1)]), (1, .box [.mp 3, .mp 4, .mp 5]), (2, .row 9 1 (List.map strN s1)), (3, .fam [4] (encF strN StoneM.m s2) []), (4, .fam [] (encF strN EditionM.m s3) []), (5, .mp (encM strN bN s4))]⟩ _;unfold f40b at hF
 case' g10 =>
  intro P107;refine zat (c := zap zai [(106, false, zbd (zap zai [(138, false, zbd (zap zai [(107, true, lendPg [[0]] G107)]) Tryz.f138)]) Tryz.f106), (108, true, zb5 [[1], [0, 0]] G108), (105, true, lendPg [[0]] G105), (104, true, zb5 [[0]] G104)]) rfl tyOK (zax (zaa Tryz.func106 rfl rfl) (CallOK.inl rfl tyOK (zax (zaa Tryz.func138 rfl rfl) (CallOK.inl rfl tyOK (zar (zaa Tryz.func107 rfl rfl) P107 (zad)) Tryz.func138 (by kernel_rfl)) (zad)) Tryz.func106 (by kernel_rfl)) (zbp (zaa Tryz.func108 rfl rfl) P108 (zar (zaa Tryz.func105 rfl rfl) P105 (zbp (zaa Tryz.func104 rfl rfl) P104 (zad))))) [[0], [0]] 1 Tryz.func79 rfl rfl (by decide) (by kernel_rfl) ?_;rintro ds d ⟨N, a0, r, rfl, hF, rfl⟩ hok;clear hok;refine ⟨rfl, ?_⟩;show vc _ _ _ _ ⟨[(0, .dat (strN a0))], []⟩ _;unfold f79 at hF
 case' g11 =>
  intro P158;refine zat (c := zap zai [(158, true, lendPg [[1], [1]] G158), (132, true, lendPg [[1], [0], [1]] G132)]) rfl tyOK (zar (zaa Tryz.func158 rfl rfl) P158 (zar (zaa Tryz.func132 rfl rfl) P132 (zad))) [[0], [0]] 2 Tryz.func146 rfl rfl (by decide) (by kernel_rfl) ?_;rintro ds d ⟨N, a0, a1, r, rfl, hF, rfl⟩ hok;clear hok;refine ⟨rfl, ?_⟩;show vc _ _ _ _ ⟨[(0, .dat (zam a0)), (1, .dat (zaZ a1))], []⟩ _;unfold f146 at hF
 case' g12 =>
  intro P158 P116;refine zat (c := zap zai [(158, true, lendPg [[1], [1]] G158), (116, true, lendPg [[1]] G116)]) rfl tyOK (zar (zaa Tryz.func158 rfl rfl) P158 (zar (zaa Tryz.func116 rfl rfl) P116 (zad))) [[0]] 2 Tryz.func131 rfl rfl (by decide) (by kernel_rfl) ?_;rintro ds d ⟨N, a0, a1, r, rfl, hF, rfl⟩ hok;clear hok;refine ⟨rfl, ?_⟩;show vc _ _ _ _ ⟨[(0, .dat (zam a0)), (1, .dat (zaZ a1))], []⟩ _;unfold f131 at hF
 case' g13 =>
  intro P79;intro N;refine Nat.rec (motive := λ N => CallOK Tryz.prog 51 (effPg zjB (H51 N))) ?_ (λ N ih => ?_) N
  .exact zaC λ x y h => (by cases (show (none : Option (I97 × Int)) = some y from h))
  refine zav (c := zap zai [(51, true, effPg zjB (H51 N)), (53, false, zbd (zap zai []) Tryz.f53), (215, true, effPg zg G215), (212, true, effPg zf9 G212), (210, true, effPg zf8 G210), (208, true, effPg zfR G208), (206, true, effPg zfQ G206), (204, true, effPg zfP G204), (202, true, effPg zfO G202), (200, true, effPg zfN G200), (198, true, effPg zfM G198), (79, true, zb5 [[0]] G79)]) rfl tyOK (zah (zaa Tryz.func51 rfl rfl) ih (zax (zaa Tryz.func53 rfl rfl) (CallOK.inl rfl tyOK (zad) Tryz.func53 (by kernel_rfl)) (zah (zaa Tryz.func215 rfl rfl) P215 (zah (zaa Tryz.func212 rfl rfl) P212 (zah (zaa Tryz.func210 rfl rfl) P210 (zah (zaa Tryz.func208 rfl rfl) P208 (zah (zaa Tryz.func206 rfl rfl) P206 (zah (zaa Tryz.func204 rfl rfl) P204 (zah (zaa Tryz.func202 rfl rfl) P202 (zah (zaa Tryz.func200 rfl rfl) P200 (zah (zaa Tryz.func198 rfl rfl) P198 (zbp (zaa Tryz.func79 rfl rfl) P79 (zad))))))))))))) 1000 Srf51 zsU Tryz.func51 rfl rfl (by kernel_rfl) rfl rfl rfl rfl rfl rfl rfl rfl (λ _ => rfl) (λ _ => rfl) (λ _ _ => ⟨rfl, rfl⟩) ?_;rintro ⟨s0, s1, s2, s3, s4⟩ y hF;have hF : f51b (f51 N) N s0 s1 s2 s3 s4 = some y := hF;show vc _ _ _ _ ⟨[(0, .ptr 0 0), (1, .dat (strN s0))], [(0, .box [.ptr 1 0, .rs 2 (List.length s1)]), (1, .box [.mp 3, .mp 4, .mp 5]), (2, .row 9 1 (List.map strN s1)), (3, .fam [4] (encF strN StoneM.m s2) []), (4, .fam [] (encF strN EditionM.m s3) []), (5, .mp (encM strN bN s4))]⟩ _;unfold f51b at hF
 all_goals (repeat' (first
  | ((with_reducible first | refine q0 _ _ ?_ | refine q1 _ _ _ _ ?_ | refine q2 _ _ _ ?_); clear Q q0 q1 q2)
  | ((with_reducible first | refine zkS ?hx (λ Q q0 q1 q2 => ?_) | refine zhn ?hx (λ Q q0 q1 q2 => ?_) | refine zhp ?hx (λ Q q0 q1 q2 => ?_) | refine zeT ?hx (λ Q q0 q1 q2 => ?_)); (case hx => exact rfl); conv => whnf)
  | ((with_reducible first | refine zho ?hx ?_ | refine zeR ?hx ?_ | refine zdM ?hx ?_ | refine zeO ?hx ?_ | refine zeU ?hx ?_ | refine zdO ?hx ?_); (case hx => exact rfl))
  | ((with_reducible refine zeA ?_); (first | ((first | refine zhX rfl ?hy (λ Q q0 q1 q2 => ?_) | refine ze5 rfl ?hy (λ Q q0 q1 q2 => ?_)); (case hy => first | assumption | exact notT (by assumption) | exact rfl); conv => whnf) | ((first | refine ze4 rfl ?hy ?_ | refine zdZ rfl ?hy ?_); (case hy => first | assumption | exact notF (by assumption) | exact rfl)) | (revert hF; (with_reducible first | refine zhY ?hx ?_ ?_ | refine ze6 ?hx ?_ ?_); (case hx => exact rfl); (intro hc hF Q q0 q1 q2; conv => whnf); rotate_left; (intro hc hF); rotate_right) | (revert hF; (with_reducible first | refine zhZ ?hx ?_ ?_ | refine ze7 ?hx ?_ ?_); (case hx => exact rfl); (intro hc hF); rotate_left; (intro hc hF Q q0 q1 q2; conv => whnf); rotate_right)))
  | ((with_reducible refine zhW ?_); (first | ((refine zld rfl ?hy ?_); (case hy => first | assumption | exact notT (by assumption) | exact rfl)) | ((refine zle rfl ?hy ?_); (case hy => first | assumption | exact notF (by assumption) | exact rfl)) | (revert hF; (with_reducible refine zo4 ?hx ?_ ?_); (case hx => exact rfl); all_goals (intro hc hF))))
  | ((with_reducible have hG := zca hF); (refine zc1 4 1403 rfl rfl rfl (by first | exact zas | exact za1 (by decide) zas) (by assumption) (by exact rfl) ?_); (have hF := hG); clear hG; dsimp only [St.settledF]; (first | ((with_reducible refine hR _ ?_); clear R hR) | ((with_reducible refine hL _ ?_); clear L hL)))
  | ((with_reducible have hG := zca hF); (refine zji 4 1803 rfl rfl rfl (by first | exact zas | exact za1 (by decide) zas) (by assumption) (by exact rfl) ?_); (have hF := hG); clear hG; dsimp only [St.settledF]; (first | ((with_reducible refine hR _ ?_); clear R hR) | ((with_reducible refine hL _ ?_); clear L hL)))
  | ((with_reducible refine zhm ?_); (first | ((with_reducible refine hR _ ?_); clear R hR) | ((with_reducible refine hL _ ?_); clear L hL)))
  | ((with_reducible refine zeS ?_); (with_reducible refine hR _ _ ?hx ?_); (case hx => kernel_rfl); clear R hR)
  | ((with_reducible first | refine ze1 ?_ | refine ze2 ?_ | refine idx2 (by assumption) ?_ | refine idx3 (by assumption) ?_); conv => whnf)
  | (with_reducible first | refine zeN ?_ | refine zhi ?_ | refine zkR ?_ | refine zhj ?_ | refine zdN (λ R hR => ?_) | refine zdK ?_ | refine zc6 ?_ | refine zoo ?_ | refine zdL ?_ | refine zc7 ?_ | refine zc8 ?_ | refine zcC ?_)
  | ((with_reducible refine zaY [zti, 207000103000000007, zti] ?hx ?_); (case hx => exact rfl))
  | ((with_reducible refine zaY [15, 14] ?hx ?_); (case hx => exact rfl))
  | ((with_reducible refine zaY [] ?hx ?_); (case hx => exact rfl))
  | ((with_reducible refine zaY [603000103000000007] ?hx ?_); (case hx => exact rfl))
  | ((with_reducible refine zaY [47, 41, 35, 3305000103000000007, 33, 23] ?hx ?_); (case hx => exact rfl))
  | ((with_reducible refine zaY [1000006] ?hx ?_); (case hx => exact rfl))
  | ((with_reducible refine zhk ?hx (λ R L hL hR => ?_)); (case hx => exact rfl))
  | ((with_reducible replace hF := isE hF); (dsimp only [za7, zbC, za8, za0, zbn, zbE, zaN, zaI, zaO, zgb, zgc, zls, zn7, zgd, zju, za9, zbG, zaP, zia, zn9, zib, zic, za3, zbx, zid, zoa, zie, zjy, zaM, zjz, zkz] at hF); first | ((with_reducible replace hF := chkE (e := zaE ..) hF); rewrite [zaE] at hF) | ((with_reducible replace hF := chkE (e := zaF ..) hF); rewrite [zaF] at hF) | ((with_reducible replace hF := chkE (e := zaz ..) hF); rewrite [zaz] at hF) | ((with_reducible replace hF := chkE (e := zaG ..) hF); rewrite [zaG] at hF) | ((with_reducible replace hF := chkE (e := zeo ..) hF); rewrite [zeo] at hF) | ((with_reducible replace hF := chkE (e := zep ..) hF); rewrite [zep] at hF) | ((with_reducible replace hF := chkE (e := zaB ..) hF); rewrite [zaB] at hF) | rewrite [zbB] at hF | rewrite [zbm] at hF | rewrite [zbD] at hF | rewrite [zd6] at hF | rewrite [zd7] at hF | rewrite [zlr] at hF | rewrite [zn6] at hF | rewrite [zbF] at hF | rewrite [zn8] at hF | rewrite [zge] at hF | rewrite [zbw] at hF | rewrite [zgf] at hF | rewrite [zo] at hF | rewrite [zgg] at hF | rewrite [zjA] at hF)
  | ((with_reducible refine zhV ?_); first | ((with_reducible replace hF := toLp 0 1 hF); exact Lp.backI hF () ⟨_, rfl, rfl, rfl, rfl⟩ rfl) | ((with_reducible replace hF := toLp 0 2 hF); exact Lp.backI hF () ⟨_, rfl, rfl, rfl, rfl⟩ rfl) | ((with_reducible replace hF := toLp 1 2 hF); exact Lp.backI hF (_, ()) ⟨_, rfl, rfl, rfl, rfl⟩ (pr2 (by first | exact rfl | assumption | omega | (simp only [List.length_set]; done)) rfl)))
  | ((with_reducible refine zfI ?_); first | ((with_reducible replace hF := toLp 0 0 hF); exact Lp.headI hF () ⟨_, rfl, rfl, rfl, rfl⟩ rfl) | ((with_reducible replace hF := toLp 0 1 hF); exact Lp.headI hF () ⟨_, rfl, rfl, rfl, rfl⟩ rfl) | ((with_reducible replace hF := toLp 0 2 hF); exact Lp.headI hF () ⟨_, rfl, rfl, rfl, rfl⟩ rfl) | ((with_reducible replace hF := toLp 1 1 hF); exact Lp.headI hF (_, ()) ⟨_, rfl, rfl, rfl, rfl⟩ (pr2 (by first | exact rfl | assumption | omega | (simp only [List.length_set]; done)) rfl)) | ((with_reducible replace hF := toLp 1 2 hF); exact Lp.headI hF (_, ()) ⟨_, rfl, rfl, rfl, rfl⟩ (pr2 (by first | exact rfl | assumption | omega | (simp only [List.length_set]; done)) rfl)))
  | ((with_reducible refine zhT ?_); first | ((with_reducible replace hF := toLp 0 1 hF); ((refine Lp.loopI hF () rfl ⟨_, rfl, rfl, rfl, rfl⟩ rfl (λ _ => rfl) ?_); clear hF); (rintro n _ hF)) | ((with_reducible replace hF := toLp 0 2 hF); ((refine Lp.loopI hF () rfl ⟨_, rfl, rfl, rfl, rfl⟩ rfl (λ _ => rfl) ?_); clear hF); (rintro n ⟨_, _⟩ hF)) | ((with_reducible replace hF := toLp 1 2 hF); ((refine Lp.loopI hF (_, ()) rfl ⟨_, rfl, rfl, rfl, rfl⟩ (pr2 (by first | exact rfl | assumption | omega | (simp only [List.length_set]; done)) rfl) (λ _ => rfl) ?_); clear hF); (rintro n ⟨_, _⟩ hF)))
  | ((with_reducible refine zhU ?_); first | ((with_reducible replace hF := zeM 0 hF); ((refine Lp.cutI hF rfl rfl ?_ ?_) <;> clear hF); (intro hF); rotate_left; (rintro _ hF); rotate_right) | ((with_reducible replace hF := zeM 1 hF); ((refine Lp.cutI hF rfl rfl ?_ ?_) <;> clear hF); (intro hF); rotate_left; (rintro _ hF); rotate_right) | ((with_reducible replace hF := zeM 2 hF); ((refine Lp.cutI hF rfl rfl ?_ ?_) <;> clear hF); (intro hF); rotate_left; (rintro ⟨_, _⟩ hF); rotate_right))
  | ((with_reducible have hJ := isB hF); clear hJ; revert hF; (with_reducible first | refine G117.lend ?hx ?_ | refine G143.step ?hx ?_ | refine G145.lend ?hx ?_ | refine G148.lend ?hx ?_ | refine G61.lend ?hx ?_ | refine G116.lend ?hx ?_ | refine G119.step ?hx ?_ | refine G64.lend ?hx ?_ | refine G104.step ?hx ?_ | refine G105.lend ?hx ?_ | refine G107.lend ?hx ?_ | refine G108.step ?hx ?_ | refine G132.lend ?hx ?_ | refine G158.lend ?hx ?_); (case hx => exact rfl); intro v hF; conv => whnf)
  | (revert hF; (with_reducible refine G79.step ?hx ?_); (case hx => exact rfl); intro v hF; (obtain ⟨v, ve⟩ := v); (try dsimp only at hF); (conv => whnf))
  | (revert hF; (refine zo2 (d := iN) ?_); intro x hF; conv => whnf)
  | ((refine Or.inr ?_); (conv => whnf); (with_reducible refine zgZ (List.map iN (List.replicate 2 (0 : Int))) ?hx ?_); (case hx => (unfold zlt; kernel_rfl)); conv => whnf)
  | ((with_reducible refine zfI ?_); (rename I97 => xi); cases xi)
  | ((refine znl (d := iN) (by assumption) ?_); conv => whnf)
  | ((with_reducible have hI := zrE hF); clear hI; revert hF; (refine zpf (by decide) ?_); intro hF; conv => whnf)
  | ((with_reducible have hJ := isB hF); clear hJ; revert hF; (first | refine G198.step rfl rfl rfl rfl rfl  (by first | exact trivial | exact rfl) ?hn ?_ | refine G200.step rfl rfl rfl rfl rfl  (by first | exact trivial | exact rfl) ?hn ?_ | refine G202.step rfl rfl rfl rfl rfl  (by first | exact trivial | exact rfl) ?hn ?_ | refine G204.step rfl rfl rfl rfl rfl  (by first | exact trivial | exact rfl) ?hn ?_ | refine G206.step rfl rfl rfl rfl rfl  (by first | exact trivial | exact rfl) ?hn ?_ | refine G208.step rfl rfl rfl rfl rfl  (by first | exact trivial | exact rfl) ?hn ?_ | refine G210.step rfl rfl rfl rfl rfl  (by first | exact trivial | exact rfl) ?hn ?_ | refine G212.step rfl rfl rfl rfl rfl  (by first | exact trivial | exact rfl) ?hn ?_ | refine G215.step rfl rfl rfl rfl rfl  (by first | exact trivial | exact rfl) ?hn ?_); (case hn => exact rfl); intro v hF; conv => whnf)
  | ((with_reducible have hG := zfF hF); clear hF; (refine zqD (d := iN) hG ?hn ?ho (λ q hl hF => ?_)); (case hn => first | exact rfl | assumption | omega); (case ho => (rintro p h; first | cases h; done | (cases h; rfl))); clear hG; conv => whnf)
  | (revert hF; (refine A2iN.of_step ?_); intro x hF; conv => whnf)
  | (cases hF; (refine Or.inl ?_); (conv => whnf); exact ⟨rfl, rfl, rfl⟩)
  | ((refine zo3 (e := zaZ) (d := iN) (λ _ => rfl) ?hn ?_); (case hn => first | exact rfl | assumption | omega); conv => whnf)
  | ((with_reducible refine znn hF ?_); (clear hF; intro hF; conv => whnf))
  | (revert hF; (refine zdj (eK := strN) (eM := StoneM.m) zbq ?hk ?hd ?he ?_ ?_); (case hk => exact λ _ => rfl); (case hd => exact rfl); (case he => exact rfl); (intro hl hF; conv => whnf); rotate_left; (intro i hl hF; conv => whnf); rotate_right)
  | (revert hF; (refine zfG (eK := strN) (eV := iN) zbq ?hk ?hz ?hd ?he ?_); (case hk => exact λ _ => rfl); (case hz => exact rfl); (case hd => exact rfl); (case he => exact rfl); intro x hF; conv => whnf)
  | ((with_reducible have hG := zk9 hF); clear hF; (first | (refine zno hG (by (try simp only [W]); omega) (λ x hF => ?_)) | (refine znp hG (λ _ => rfl) (by (try simp only [W]); omega) (λ x hF => ?_))); clear hG; conv => whnf)
  | (revert hF; (refine zdj (eK := strN) (eM := EditionM.m) zbq ?hk ?hd ?he ?_ ?_); (case hk => exact λ _ => rfl); (case hd => exact rfl); (case he => exact rfl); (intro hl hF; conv => whnf); rotate_left; (intro i hl hF; conv => whnf); rotate_right)
  | ((with_reducible have hG := zjb hF); clear hF; (first | (refine zl hG (by (try simp only [W]); omega) rfl rfl (λ q hF => ?_)) | (refine zla hG (λ _ => rfl) (by (try simp only [W]); omega) rfl rfl (λ q hF => ?_))); clear hG; conv => whnf)
  | ((refine znB (eK := strN) (eM := EditionM.m) zbq (λ _ => rfl) (by exact rfl) (by exact rfl) (by assumption) ?_); conv => whnf)
  | (revert hF; (with_reducible refine idx1 ?hn ?_); (case hn => first | exact rfl | exact (List.length_map _) | assumption | omega | simp); intro x hx hF; conv => whnf)
  | ((refine zfK rfl (by assumption) (by exact rfl) ?_); conv => whnf)
  | ((refine zaq 602 603000000 rfl rfl (Nat.le_of_ble_eq_true rfl) rfl (λ R hR => ?_)); (conv => whnf); (with_reducible refine hR _ ?ha ?_); (case ha => exact rfl); clear R hR)
  | ((with_reducible have hG := ze3 hF); clear hF; (refine zhQ hG (λ q hF => ?_)); clear hG; conv => whnf)
  | ((with_reducible have hG := zje hF); clear hF; (obtain ⟨⟨x, hx, hF⟩⟩ := hG); first | ((refine zfK rfl hx (by exact rfl) ?_); conv => whnf) | skip)
  | ((refine zaq 603000102 603000103000000 rfl rfl (Nat.le_of_ble_eq_true rfl) rfl (λ R hR => ?_)); (conv => whnf); (with_reducible refine hR _ ?ha ?_); (case ha => exact rfl); clear R hR)
  | (revert hF; (refine zjf ?_ ?_); (intro ho hF; conv => whnf); rotate_left; (intro j ho hF; conv => whnf); rotate_right)
  | ((refine Or.inr ?_); (conv => whnf); (refine zlk (by first | exact zas | exact za1 (by decide) zas) ?_); conv => whnf)
  | ((refine zg1 rfl (by assumption) (λ key => ?_)); conv => whnf)
  | ((refine ⟨(by first | exact zas | exact za1 (by decide) zas), ?_⟩); conv => whnf)
  | ((refine zaq 603000103000405 603000103000406000000 rfl rfl (Nat.le_of_ble_eq_true rfl) rfl (λ R hR => ?_)); (conv => whnf); (with_reducible refine hR _ ?ha ?_); (case ha => exact rfl); clear R hR)
  | ((refine zlj (by assumption) ?_); conv => whnf)
  | ((with_reducible have hG := zdi hF); clear hF; (first | ((refine zdy hG ?hn ?hs (λ q hF => ?_)); (case hn => first | exact rfl | assumption | omega); (case hs => exact rfl)) | ((refine zej (d := iN) hG ?hs (λ q hF => ?_)); (case hs => exact rfl)) | ((refine zek (d := iN) hG ?ho ?hn ?hs (λ q hF => ?_)); (case ho => exact rfl); (case hn => exact rfl); (case hs => exact rfl))); clear hG; conv => whnf)
  | ((refine zko ?hn ?_); (case hn => first | exact rfl | (simp; done) | (simp; omega)); conv => whnf)
  | ((with_reducible refine zhP ?_); conv => whnf)
  | (revert hF; (refine zjj ?hn ?_ ?_); (case hn => first | exact rfl | assumption | omega); (intro hl hF; conv => whnf); rotate_left; (intro hF; conv => whnf); rotate_right)
  | ((with_reducible have hG := zhS hF); clear hF; (refine ⟨?hx, ?_⟩); (case hx => (first | exact of_decide_eq_true hG.1 | exact hG.1)); have hF := hG.2; clear hG; conv => whnf)
  | ((with_reducible refine zlb ?hx ?_); (case hx => first | exact rfl | assumption | exact notT (by assumption)); conv => whnf)
  | ((with_reducible refine zlc ?hx ?_); (case hx => first | exact rfl | assumption | exact notF (by assumption)); conv => whnf)
  | ((refine zaq 206 207000000 rfl rfl (Nat.le_of_ble_eq_true rfl) rfl (λ R hR => ?_)); (conv => whnf); (with_reducible refine hR _ ?ha ?_); (case ha => exact rfl); clear R hR)
  | ((refine zaq 1101 1102000000 rfl rfl (Nat.le_of_ble_eq_true rfl) rfl (λ R hR => ?_)); (conv => whnf); (with_reducible refine hR _ ?ha ?_); (case ha => exact rfl); clear R hR)
  | ((refine zaq 1102 1103000000 rfl rfl (Nat.le_of_ble_eq_true rfl) rfl (λ R hR => ?_)); (conv => whnf); (with_reducible refine hR _ ?ha ?_); (case ha => exact rfl); clear R hR)
  | (show retD _ _ _ _ _ _; conv => whnf)
  | ((refine zaq 403 404000000 rfl rfl (Nat.le_of_ble_eq_true rfl) rfl (λ R hR => ?_)); (conv => whnf); (with_reducible refine hR _ ?ha ?_); (case ha => exact rfl); clear R hR)
  | ((refine zaq 1502 1503000000 rfl rfl (Nat.le_of_ble_eq_true rfl) rfl (λ R hR => ?_)); (conv => whnf); (with_reducible refine hR _ ?ha ?_); (case ha => exact rfl); clear R hR)
  | ((refine zaq 1404 1405000000 rfl rfl (Nat.le_of_ble_eq_true rfl) rfl (λ R hR => ?_)); (conv => whnf); (with_reducible refine hR _ ?ha ?_); (case ha => exact rfl); clear R hR)
  | ((refine zaq 3304 3305000000 rfl rfl (Nat.le_of_ble_eq_true rfl) rfl (λ R hR => ?_)); (conv => whnf); (with_reducible refine hR _ ?ha ?_); (case ha => exact rfl); clear R hR)
  | ((refine zaq 207000102 207000103000000 rfl rfl (Nat.le_of_ble_eq_true rfl) rfl (λ R hR => ?_)); (conv => whnf); (with_reducible refine hR _ ?ha ?_); (case ha => exact rfl); clear R hR)
  | ((refine zaq 1503000101 1503000102000000 rfl rfl (Nat.le_of_ble_eq_true rfl) rfl (λ R hR => ?_)); (conv => whnf); (with_reducible refine hR _ ?ha ?_); (case ha => exact rfl); clear R hR)
  | ((refine zaq 1103000101 1103000102000000 rfl rfl (Nat.le_of_ble_eq_true rfl) rfl (λ R hR => ?_)); (conv => whnf); (with_reducible refine hR _ ?ha ?_); (case ha => exact rfl); clear R hR)
  | ((refine zaq 3305000102 3305000103000000 rfl rfl (Nat.le_of_ble_eq_true rfl) rfl (λ R hR => ?_)); (conv => whnf); (with_reducible refine hR _ ?ha ?_); (case ha => exact rfl); clear R hR)
  | ((refine zaq 404000102 404000103000000 rfl rfl (Nat.le_of_ble_eq_true rfl) rfl (λ R hR => ?_)); (conv => whnf); (with_reducible refine hR _ ?ha ?_); (case ha => exact rfl); clear R hR)
  | ((refine zaq 207000103000405 207000103000406000000 rfl rfl (Nat.le_of_ble_eq_true rfl) rfl (λ R hR => ?_)); (conv => whnf); (with_reducible refine hR _ ?ha ?_); (case ha => exact rfl); clear R hR)
  | ((refine zaq 404000103000405 404000103000406000000 rfl rfl (Nat.le_of_ble_eq_true rfl) rfl (λ R hR => ?_)); (conv => whnf); (with_reducible refine hR _ ?ha ?_); (case ha => exact rfl); clear R hR)
  | (show Kinl _ _ _ _ _ _ _; conv => whnf)
  | ((with_reducible refine zdY ?ha ?hb ?_); (case ha => exact rfl); (case hb => exact rfl); conv => whnf)
  | ((refine ⟨?hx, trivial⟩); (case hx => (cases hF; exact rfl)))
  | (have hF : (none : Option _) = some _ := hF; cases hF)
  | with_reducible refine zlw ?_
  | ((refine I97.fo (K := λ x => Q ⟨x, []⟩ _) ?_); conv => whnf)
  | ((refine I97.fo (K := λ x => one x _ _ _ _) ?_); conv => whnf)
  | (revert hF; (refine I97.on_step ?_ ?_ ?_ ?_ ?_ ?_ ?_ ?_ ?_ ?_) <;> ((intros); (rename_i hx hF); (first | (cases hx; done) | (subst hx; (conv => whnf)) | (cases hx; (conv => whnf)) | (simp only [hx]; (conv => whnf)))))
  | ((refine I97.fp (K := λ x => Q ⟨x, []⟩ _) ?_); conv => whnf)
  | ((refine I97.fp (K := λ x => one x _ _ _ _) ?_); conv => whnf)
  | ((rename I97 => xi); cases xi <;> ((try dsimp only at hF); (try (conv => whnf))))))
theorem P116 : A116 := zd8.1
theorem P119 : A119 := zd8.2.1
theorem P107 : A107 := zd8.2.2.1
theorem P158 : A158 := zd8.2.2.2.1 P116
theorem P84 : A84 := zd8.2.2.2.2.1 P119
theorem Q32 : ∀ N : Nat, CallOK Tryz.prog 32 (effPg zjv (H32 N)) := zd8.2.2.2.2.2.1
theorem P32 : A32 := za4 Q32
theorem Q33 : ∀ N : Nat, CallOK Tryz.prog 33 (effPg zkx (H33 N)) := zd8.2.2.2.2.2.2.1
theorem P33 : A33 := za4 Q33
theorem Q34 : ∀ N : Nat, CallOK Tryz.prog 34 (effPg zjw (H34 N)) := zd8.2.2.2.2.2.2.2.1
theorem P34 : A34 := za4 Q34
theorem Q36 : ∀ N : Nat, CallOK Tryz.prog 36 (effPg zjx (H36 N)) := zd8.2.2.2.2.2.2.2.2.1
theorem P36 : A36 := za4 Q36
theorem Q40 : ∀ N : Nat, CallOK Tryz.prog 40 (effPg zky (H40 N)) := zd8.2.2.2.2.2.2.2.2.2.1
theorem P40 : A40 := za4 Q40
theorem P79 : A79 := zd8.2.2.2.2.2.2.2.2.2.2.1 P107
theorem P146 : A146 := zd8.2.2.2.2.2.2.2.2.2.2.2.1 P158
theorem P131 : A131 := zd8.2.2.2.2.2.2.2.2.2.2.2.2.1 P158 P116
theorem Q51 : ∀ N : Nat, CallOK Tryz.prog 51 (effPg zjB (H51 N)) := zd8.2.2.2.2.2.2.2.2.2.2.2.2.2 P79
theorem P51 : A51 := za4 Q51

end Go.Vc
namespace Go.Vc
open Go.Proofs
abbrev A118 : Prop := PureOK Tryz.prog 118 G118
abbrev A101 : Prop := PureOK Tryz.prog 101 G101
abbrev A17 : Prop := CallOK Tryz.prog 17 (effPg zkA G17)
abbrev A18 : Prop := CallOK Tryz.prog 18 (effPg zif G18)
abbrev A83 : Prop := PureOK Tryz.prog 83 G83
abbrev A57 : Prop := PureOK Tryz.prog 57 G57
abbrev A23 : Prop := CallOK Tryz.prog 23 (effPg zkC G23)
abbrev A75 : Prop := PureOK Tryz.prog 75 G75
abbrev A14 : Prop := PureOK Tryz.prog 14 G14
set_option maxRecDepth 20000 in
set_option maxHeartbeats 400000000 in
theorem zil : (A118) /\ (A101) /\ (∀ N : Nat, CallOK Tryz.prog 17 (effPg zkA (H17 N))) /\ (∀ N : Nat, CallOK Tryz.prog 18 (effPg zif (H18 N))) /\ (A118 -> A83) /\ (A83 -> A57) /\ (A57 -> (∀ N : Nat, CallOK Tryz.prog 23 (effPg zkC (H23 N)))) /\ (A101 -> A57 -> A75) /\ (A23 -> A18 -> A17 -> A14) := by
 refine ⟨?g0, ?g1, ?g2, ?g3, ?g4, ?g5, ?g6, ?g7, ?g8⟩
 case' g0 =>
  refine zat (c := zap zai [(147, true, lendPg [[1], [0]] G147), (146, true, lendPg [[1], [1]] G146)]) rfl tyOK (zar (zaa Tryz.func147 rfl rfl) P147 (zar (zaa Tryz.func146 rfl rfl) P146 (zad))) [[0], [0]] 2 Tryz.func118 rfl rfl (by decide) (by kernel_rfl) ?_;rintro ds d ⟨N, a0, a1, r, rfl, hF, rfl⟩ hok;clear hok;refine ⟨rfl, ?_⟩;show vc _ _ _ _ ⟨[(0, .dat (zam a0)), (1, .dat (zaZ a1))], []⟩ _;unfold f118 at hF
 case' g1 =>
  refine zat (c := zap zai [(132, true, lendPg [[1], [0], [1]] G132), (131, true, lendPg [[1], [1]] G131)]) rfl tyOK (zar (zaa Tryz.func132 rfl rfl) P132 (zar (zaa Tryz.func131 rfl rfl) P131 (zad))) [[0]] 2 Tryz.func101 rfl rfl (by decide) (by kernel_rfl) ?_;rintro ds d ⟨N, a0, a1, r, rfl, hF, rfl⟩ hok;clear hok;refine ⟨rfl, ?_⟩;show vc _ _ _ _ ⟨[(0, .dat (zam a0)), (1, .dat (zaZ a1))], []⟩ _;unfold f101 at hF
 case' g2 =>
  intro N;refine Nat.rec (motive := λ N => CallOK Tryz.prog 17 (effPg zkA (H17 N))) ?_ (λ N ih => ?_) N
  .exact zaC λ x y h => (by cases (show (none : Option (Int)) = some y from h))
  refine zav (c := zap zai [(17, true, effPg zkA (H17 N)), (51, true, effPg zjB G51)]) rfl tyOK (zah (zaa Tryz.func17 rfl rfl) ih (zah (zaa Tryz.func51 rfl rfl) P51 (zad))) 1000 Srf17 zsV Tryz.func17 rfl rfl (by kernel_rfl) rfl rfl rfl rfl rfl rfl rfl rfl (λ _ => rfl) (λ _ => rfl) (λ _ _ => ⟨rfl, rfl⟩) ?_;rintro ⟨s0, s1, s2, s3, s4⟩ y hF;have hF : f17b (f17 N) N s0 s1 s2 s3 s4 = some y := hF;show vc _ _ _ _ ⟨[(0, .ptr 0 0), (1, .dat (strN s0))], [(0, .box [.ptr 1 0, .rs 2 (List.length s1)]), (1, .box [.mp 3, .mp 4, .mp 5]), (2, .row 9 1 (List.map strN s1)), (3, .fam [4] (encF strN StoneM.m s2) []), (4, .fam [] (encF strN EditionM.m s3) []), (5, .mp (encM strN bN s4))]⟩ _;unfold f17b at hF
 case' g3 =>
  intro N;refine Nat.rec (motive := λ N => CallOK Tryz.prog 18 (effPg zif (H18 N))) ?_ (λ N ih => ?_) N
  .exact zaC λ x y h => (by cases (show (none : Option (Int × LS × LE × LC × LB)) = some y from h))
  refine zav (c := zap zai [(18, true, effPg zif (H18 N)), (214, true, effPg zfZ G214), (211, true, effPg zga G211), (209, true, effPg zfY G209), (207, true, effPg zfX G207), (205, true, effPg zfW G205), (203, true, effPg zfV G203), (201, true, effPg zfU G201), (199, true, effPg zfT G199), (197, true, effPg zfS G197), (51, true, effPg zjB G51)]) rfl tyOK (zah (zaa Tryz.func18 rfl rfl) ih (zah (zaa Tryz.func214 rfl rfl) P214 (zah (zaa Tryz.func211 rfl rfl) P211 (zah (zaa Tryz.func209 rfl rfl) P209 (zah (zaa Tryz.func207 rfl rfl) P207 (zah (zaa Tryz.func205 rfl rfl) P205 (zah (zaa Tryz.func203 rfl rfl) P203 (zah (zaa Tryz.func201 rfl rfl) P201 (zah (zaa Tryz.func199 rfl rfl) P199 (zah (zaa Tryz.func197 rfl rfl) P197 (zah (zaa Tryz.func51 rfl rfl) P51 (zad)))))))))))) 1000 Srf18 zsW Tryz.func18 rfl rfl (by kernel_rfl) rfl rfl rfl rfl rfl rfl rfl rfl (λ _ => rfl) (λ _ => rfl) (λ _ _ => ⟨rfl, rfl⟩) ?_;rintro ⟨s0, s1, s2, s3, s4⟩ y hF;have hF : f18b (f18 N) N s0 s1 s2 s3 s4 = some y := hF;show vc _ _ _ _ ⟨[(0, .ptr 0 0), (1, .dat (strN s0))], [(0, .box [.ptr 1 0, .rs 2 (List.length s1)]), (1, .box [.mp 3, .mp 4, .mp 5]), (2, .row 9 1 (List.map strN s1)), (3, .fam [4] (encF strN StoneM.m s2) []), (4, .fam [] (encF strN EditionM.m s3) []), (5, .mp (encM strN bN s4))]⟩ _;unfold f18b at hF
 case' g4 =>
  intro P118;refine zat (c := zap zai [(118, true, lendPg [[1], [1]] G118), (117, true, lendPg [[0], [0], [0]] G117), (116, true, lendPg [[1]] G116)]) rfl tyOK (zar (zaa Tryz.func118 rfl rfl) P118 (zar (zaa Tryz.func117 rfl rfl) P117 (zar (zaa Tryz.func116 rfl rfl) P116 (zad)))) [[1], [0]] 3 Tryz.func83 rfl rfl (by decide) (by kernel_rfl) ?_;rintro ds d ⟨N, a0, a1, a2, r, rfl, hF, rfl⟩ hok;clear hok;refine ⟨rfl, ?_⟩;show vc _ _ _ _ ⟨[(0, .dat (zam a0)), (1, .dat (iN a1)), (2, .dat (iN a2))], []⟩ _;unfold f83 at hF
 case' g5 =>
  intro P83;refine zat (c := zap zai [(85, false, zbd (zap zai [(82, true, copyPg 106)]) Tryz.f85), (58, false, zbd (zap zai []) Tryz.f58), (84, true, zb5 [] G84), (83, true, zb5 [[1], [0], [0]] G83)]) rfl tyOK (zax (zaa Tryz.func85 rfl rfl) (CallOK.inl rfl tyOK (zlo (zaa Tryz.func82 rfl rfl) (zad)) Tryz.func85 (by kernel_rfl)) (zax (zaa Tryz.func58 rfl rfl) (CallOK.inl rfl tyOK (zad) Tryz.func58 (by kernel_rfl)) (zbp (zaa Tryz.func84 rfl rfl) P84 (zbp (zaa Tryz.func83 rfl rfl) P83 (zad))))) [[0]] 1 Tryz.func57 rfl rfl (by decide) (by kernel_rfl) ?_;rintro ds d ⟨N, a0, r, rfl, hF, rfl⟩ hok;clear hok;refine ⟨rfl, ?_⟩;show vc _ _ _ _ ⟨[(0, .dat (strN a0))], []⟩ _;unfold f57 at hF
 case' g6 =>
  intro P57;intro N;refine Nat.rec (motive := λ N => CallOK Tryz.prog 23 (effPg zkC (H23 N))) ?_ (λ N ih => ?_) N
  .exact zaC λ x y h => (by cases (show (none : Option (ByteArray)) = some y from h))
  refine zav (c := zap zai [(23, true, effPg zkC (H23 N)), (58, false, zbd (zap zai []) Tryz.f58), (56, false, zbd (zap zai [(82, true, copyPg 106)]) Tryz.f56), (53, false, zbd (zap zai []) Tryz.f53), (57, true, lendPg [[0]] G57), (30, true, lendPg [[0]] G30)]) rfl tyOK (zah (zaa Tryz.func23 rfl rfl) ih (zax (zaa Tryz.func58 rfl rfl) (CallOK.inl rfl tyOK (zad) Tryz.func58 (by kernel_rfl)) (zax (zaa Tryz.func56 rfl rfl) (CallOK.inl rfl tyOK (zlo (zaa Tryz.func82 rfl rfl) (zad)) Tryz.func56 (by kernel_rfl)) (zax (zaa Tryz.func53 rfl rfl) (CallOK.inl rfl tyOK (zad) Tryz.func53 (by kernel_rfl)) (zar (zaa Tryz.func57 rfl rfl) P57 (zar (zaa Tryz.func30 rfl rfl) P30 (zad))))))) 1000 Srf23 zsX Tryz.func23 rfl rfl (by kernel_rfl) rfl rfl rfl rfl rfl rfl rfl rfl (λ _ => rfl) (λ _ => rfl) (λ _ _ => ⟨rfl, rfl⟩) ?_;rintro ⟨s0, s1, s2, s3⟩ y hF;have hF : f23b (f23 N) N s0 s1 s2 s3 = some y := hF;show vc _ _ _ _ ⟨[(0, .ptr 0 0)], [(0, .box [.ptr 1 0, .rs 2 (List.length s0)]), (1, .box [.mp 3, .mp 4, .mp 5]), (2, .row 9 1 (List.map strN s0)), (3, .fam [4] (encF strN StoneM.m s1) []), (4, .fam [] (encF strN EditionM.m s2) []), (5, .mp (encM strN bN s3))]⟩ _;unfold f23b at hF
 case' g7 =>
  intro P101 P57;refine zat (c := zap zai [(101, true, lendPg [[1], [1]] G101), (100, true, lendPg [[0], [0]] G100), (84, true, zb5 [] G84), (57, true, lendPg [[0]] G57)]) rfl tyOK (zar (zaa Tryz.func101 rfl rfl) P101 (zar (zaa Tryz.func100 rfl rfl) P100 (zbp (zaa Tryz.func84 rfl rfl) P84 (zar (zaa Tryz.func57 rfl rfl) P57 (zad))))) [[0], [0]] 1 Tryz.func75 rfl rfl (by decide) (by kernel_rfl) ?_;rintro ds d ⟨N, a0, r, rfl, hF, rfl⟩ hok;clear hok;refine ⟨rfl, ?_⟩;show vc _ _ _ _ ⟨[(0, .dat (strN a0))], []⟩ _;unfold f75 at hF
 case' g8 =>
  intro P23 P18 P17;refine zat (c := zap zai [(15, false, zbd (zap zai []) Tryz.f15), (40, true, effPg zky G40), (36, true, effPg zjx G36), (34, true, effPg zjw G34), (33, true, effPg zkx G33), (32, true, effPg zjv G32), (23, true, effPg zkC G23), (18, true, effPg zif G18), (17, true, effPg zkA G17), (44, true, zb5 [] G44), (35, true, lendPg [[1], [1]] G35)]) rfl tyOK (zax (zaa Tryz.func15 rfl rfl) (CallOK.inl rfl tyOK (zad) Tryz.func15 (by kernel_rfl)) (zah (zaa Tryz.func40 rfl rfl) P40 (zah (zaa Tryz.func36 rfl rfl) P36 (zah (zaa Tryz.func34 rfl rfl) P34 (zah (zaa Tryz.func33 rfl rfl) P33 (zah (zaa Tryz.func32 rfl rfl) P32 (zah (zaa Tryz.func23 rfl rfl) P23 (zah (zaa Tryz.func18 rfl rfl) P18 (zah (zaa Tryz.func17 rfl rfl) P17 (zbp (zaa Tryz.func44 rfl rfl) P44 (zar (zaa Tryz.func35 rfl rfl) P35 (zad)))))))))))) [[0]] 0 Tryz.func14 rfl rfl (by decide) (by kernel_rfl) ?_;rintro ds d ⟨N, r, rfl, hF, rfl⟩ hok;clear hok;refine ⟨rfl, ?_⟩;show vc _ _ _ _ ⟨[], []⟩ _;unfold f14 at hF
 all_goals (repeat' (first
  | ((with_reducible first | refine q0 _ _ ?_ | refine q1 _ _ _ _ ?_ | refine q2 _ _ _ ?_); clear Q q0 q1 q2)
  | ((with_reducible first | refine zkS ?hx (λ Q q0 q1 q2 => ?_) | refine zhp ?hx (λ Q q0 q1 q2 => ?_) | refine zhn ?hx (λ Q q0 q1 q2 => ?_) | refine zeT ?hx (λ Q q0 q1 q2 => ?_)); (case hx => exact rfl); conv => whnf)
  | ((with_reducible first | refine zho ?hx ?_ | refine zeR ?hx ?_ | refine zeU ?hx ?_ | refine zdO ?hx ?_ | refine zdM ?hx ?_ | refine zeO ?hx ?_); (case hx => exact rfl))
  | ((with_reducible refine zeA ?_); (first | ((first | refine zhX rfl ?hy (λ Q q0 q1 q2 => ?_) | refine ze5 rfl ?hy (λ Q q0 q1 q2 => ?_)); (case hy => first | assumption | exact notT (by assumption) | exact rfl); conv => whnf) | ((first | refine ze4 rfl ?hy ?_ | refine zdZ rfl ?hy ?_); (case hy => first | assumption | exact notF (by assumption) | exact rfl)) | (revert hF; (with_reducible first | refine zhY ?hx ?_ ?_ | refine ze6 ?hx ?_ ?_); (case hx => exact rfl); (intro hc hF Q q0 q1 q2; conv => whnf); rotate_left; (intro hc hF); rotate_right) | (revert hF; (with_reducible first | refine zhZ ?hx ?_ ?_ | refine ze7 ?hx ?_ ?_); (case hx => exact rfl); (intro hc hF); rotate_left; (intro hc hF Q q0 q1 q2; conv => whnf); rotate_right)))
  | ((with_reducible refine zhW ?_); (first | ((refine zld rfl ?hy ?_); (case hy => first | assumption | exact notT (by assumption) | exact rfl)) | ((refine zle rfl ?hy ?_); (case hy => first | assumption | exact notF (by assumption) | exact rfl)) | (revert hF; (with_reducible refine zo4 ?hx ?_ ?_); (case hx => exact rfl); all_goals (intro hc hF))))
  | ((with_reducible refine zeA ?_); (refine zeQ ztd ztb (ks := []) rfl rfl ?_); dsimp only [St.kid]; (first | ((with_reducible refine hR _ ?_); clear R hR) | ((with_reducible refine hL _ ?_); clear L hL)))
  | ((with_reducible refine zeA ?_); (refine zeQ 2201000100 2201000101 (ks := []) rfl rfl ?_); dsimp only [St.kid]; (first | ((with_reducible refine hR _ ?_); clear R hR) | ((with_reducible refine hL _ ?_); clear L hL)))
  | ((with_reducible refine zhm ?_); (first | ((with_reducible refine hR _ ?_); clear R hR) | ((with_reducible refine hL _ ?_); clear L hL)))
  | ((with_reducible refine zeS ?_); (with_reducible refine hR _ _ ?hx ?_); (case hx => kernel_rfl); clear R hR)
  | ((with_reducible first | refine ze1 ?_ | refine idx2 (by assumption) ?_ | refine idx3 (by assumption) ?_ | refine ze2 ?_); conv => whnf)
  | (with_reducible first | refine zeN ?_ | refine zhi ?_ | refine zkR ?_ | refine zhj ?_ | refine zdN (λ R hR => ?_) | refine zdK ?_ | refine zc6 ?_ | refine zoo ?_ | refine zdL ?_ | refine zc7 ?_ | refine zc8 ?_ | refine zcC ?_)
  | ((with_reducible refine zaY [] ?hx ?_); (case hx => exact rfl))
  | ((with_reducible refine zaY [15] ?hx ?_); (case hx => exact rfl))
  | ((with_reducible refine zaY [14, 7] ?hx ?_); (case hx => exact rfl))
  | ((with_reducible refine zaY [1000010] ?hx ?_); (case hx => exact rfl))
  | ((with_reducible refine zaY [12] ?hx ?_); (case hx => exact rfl))
  | ((with_reducible refine zaY [23, 8, 6] ?hx ?_); (case hx => exact rfl))
  | ((with_reducible refine zhk ?hx (λ R L hL hR => ?_)); (case hx => exact rfl))
  | ((with_reducible have hJ := isB hF); clear hJ; revert hF; (first | refine G51.step rfl rfl rfl rfl rfl rfl rfl (by first | exact rfl | assumption | omega | (simp only [List.length_set]; done)) (by first | exact trivial | exact rfl) ?hn ?_); (case hn => exact rfl); intro v hF; (obtain ⟨v, ve⟩ := v); (try dsimp only at hF); (conv => whnf))
  | ((with_reducible replace hF := isE hF); (dsimp only [zig, zoc, zjC, zih, zoe, zkB, zpW, zjD, zof, zii, zpY, zog, zij, zp0, zoh, zik, zkD, zkE, zp2, zoi] at hF); first | ((with_reducible replace hF := chkE (e := zha ..) hF); rewrite [zha] at hF) | rewrite [zgh] at hF | rewrite [zob] at hF | rewrite [zgi] at hF | rewrite [zod] at hF | rewrite [zjE] at hF | rewrite [zpV] at hF | rewrite [zgj] at hF | rewrite [zpX] at hF | rewrite [zgk] at hF | rewrite [zpZ] at hF | rewrite [zgl] at hF | rewrite [zjF] at hF | rewrite [zp1] at hF)
  | ((with_reducible refine zhV ?_); first | ((with_reducible replace hF := toLp 0 2 hF); exact Lp.backI hF () ⟨_, rfl, rfl, rfl, rfl⟩ rfl) | ((with_reducible replace hF := toLp 1 2 hF); exact Lp.backI hF (_, ()) ⟨_, rfl, rfl, rfl, rfl⟩ (pr2 (by first | exact rfl | assumption | omega | (simp only [List.length_set]; done)) rfl)) | ((with_reducible replace hF := toLp 1 3 hF); exact Lp.backI hF (_, ()) ⟨_, rfl, rfl, rfl, rfl⟩ (pr2 (by first | exact rfl | assumption | omega | (simp only [List.length_set]; done)) rfl)) | ((with_reducible replace hF := toLp 1 5 hF); exact Lp.backI hF (_, ()) ⟨_, rfl, rfl, rfl, rfl⟩ (pr2 (by first | exact rfl | assumption | omega | (simp only [List.length_set]; done)) rfl)) | ((with_reducible replace hF := toLp 3 2 hF); exact Lp.backI hF (_, _, _) ⟨_, rfl, rfl, rfl, rfl⟩ (pr2 (by first | exact rfl | assumption | omega | (simp only [List.length_set]; done)) (pr2 (by first | exact rfl | assumption | omega | (simp only [List.length_set]; done)) (by first | exact rfl | assumption | omega | (simp only [List.length_set]; done))))))
  | ((with_reducible refine zfI ?_); first | ((with_reducible replace hF := toLp 0 1 hF); exact Lp.headI hF () ⟨_, rfl, rfl, rfl, rfl⟩ rfl) | ((with_reducible replace hF := toLp 1 0 hF); exact Lp.headI hF (_, ()) ⟨_, rfl, rfl, rfl, rfl⟩ (pr2 (by first | exact rfl | assumption | omega | (simp only [List.length_set]; done)) rfl)) | ((with_reducible replace hF := toLp 1 1 hF); exact Lp.headI hF (_, ()) ⟨_, rfl, rfl, rfl, rfl⟩ (pr2 (by first | exact rfl | assumption | omega | (simp only [List.length_set]; done)) rfl)) | ((with_reducible replace hF := toLp 1 2 hF); exact Lp.headI hF (_, ()) ⟨_, rfl, rfl, rfl, rfl⟩ (pr2 (by first | exact rfl | assumption | omega | (simp only [List.length_set]; done)) rfl)) | ((with_reducible replace hF := toLp 1 4 hF); exact Lp.headI hF (_, ()) ⟨_, rfl, rfl, rfl, rfl⟩ (pr2 (by first | exact rfl | assumption | omega | (simp only [List.length_set]; done)) rfl)) | ((with_reducible replace hF := toLp 2 1 hF); exact Lp.headI hF (_, _) ⟨_, rfl, rfl, rfl, rfl⟩ (pr2 (by first | exact rfl | assumption | omega | (simp only [List.length_set]; done)) (by first | exact rfl | assumption | omega | (simp only [List.length_set]; done)))))
  | ((with_reducible refine zhT ?_); first | ((with_reducible replace hF := toLp 0 2 hF); ((refine Lp.loopI hF () rfl ⟨_, rfl, rfl, rfl, rfl⟩ rfl (λ _ => rfl) ?_); clear hF); (rintro n ⟨_, _⟩ hF)) | ((with_reducible replace hF := toLp 1 2 hF); ((refine Lp.loopI hF (_, ()) rfl ⟨_, rfl, rfl, rfl, rfl⟩ (pr2 (by first | exact rfl | assumption | omega | (simp only [List.length_set]; done)) rfl) (λ _ => rfl) ?_); clear hF); (rintro n ⟨_, _⟩ hF)) | ((with_reducible replace hF := toLp 1 3 hF); ((refine Lp.loopI hF (_, ()) rfl ⟨_, rfl, rfl, rfl, rfl⟩ (pr2 (by first | exact rfl | assumption | omega | (simp only [List.length_set]; done)) rfl) (λ _ => rfl) ?_); clear hF); (rintro n ⟨_, _, _⟩ hF)) | ((with_reducible replace hF := toLp 1 5 hF); ((refine Lp.loopI hF (_, ()) rfl ⟨_, rfl, rfl, rfl, rfl⟩ (pr2 (by first | exact rfl | assumption | omega | (simp only [List.length_set]; done)) rfl) (λ _ => rfl) ?_); clear hF); (rintro n ⟨_, _, _, _, _⟩ hF)) | ((with_reducible replace hF := toLp 3 2 hF); ((refine Lp.loopI hF (_, _, _) rfl ⟨_, rfl, rfl, rfl, rfl⟩ (pr2 (by first | exact rfl | assumption | omega | (simp only [List.length_set]; done)) (pr2 (by first | exact rfl | assumption | omega | (simp only [List.length_set]; done)) (by first | exact rfl | assumption | omega | (simp only [List.length_set]; done)))) (λ _ => rfl) ?_); clear hF); (rintro n ⟨_, _⟩ hF)))
  | ((with_reducible refine zhU ?_); first | ((with_reducible replace hF := zeM 0 hF); ((refine Lp.cutI hF rfl rfl ?_ ?_) <;> clear hF); (intro hF); rotate_left; (rintro _ hF); rotate_right) | ((with_reducible replace hF := zeM 1 hF); ((refine Lp.cutI hF rfl rfl ?_ ?_) <;> clear hF); (intro hF); rotate_left; (rintro _ hF); rotate_right) | ((with_reducible replace hF := zeM 2 hF); ((refine Lp.cutI hF rfl rfl ?_ ?_) <;> clear hF); (intro hF); rotate_left; (rintro ⟨_, _⟩ hF); rotate_right) | ((with_reducible replace hF := zeM 4 hF); ((refine Lp.cutI hF rfl rfl ?_ ?_) <;> clear hF); (intro hF); rotate_left; (rintro ⟨_, _, _, _⟩ hF); rotate_right))
  | ((with_reducible have hJ := isB hF); clear hJ; revert hF; (with_reducible first | refine G146.lend ?hx ?_ | refine G147.lend ?hx ?_ | refine G131.lend ?hx ?_ | refine G132.lend ?hx ?_ | refine G116.lend ?hx ?_ | refine G117.lend ?hx ?_ | refine G118.lend ?hx ?_ | refine G83.step ?hx ?_ | refine G84.step ?hx ?_ | refine G30.lend ?hx ?_ | refine G57.lend ?hx ?_ | refine G100.lend ?hx ?_ | refine G101.lend ?hx ?_ | refine G35.lend ?hx ?_ | refine G44.step ?hx ?_); (case hx => exact rfl); intro v hF; conv => whnf)
  | ((with_reducible have hJ := isB hF); clear hJ; revert hF; (first | refine G197.step rfl rfl rfl rfl rfl  (by first | exact trivial | exact rfl) ?hn ?_ | refine G199.step rfl rfl rfl rfl rfl  (by first | exact trivial | exact rfl) ?hn ?_ | refine G201.step rfl rfl rfl rfl rfl  (by first | exact trivial | exact rfl) ?hn ?_ | refine G203.step rfl rfl rfl rfl rfl  (by first | exact trivial | exact rfl) ?hn ?_ | refine G205.step rfl rfl rfl rfl rfl  (by first | exact trivial | exact rfl) ?hn ?_ | refine G207.step rfl rfl rfl rfl rfl  (by first | exact trivial | exact rfl) ?hn ?_ | refine G209.step rfl rfl rfl rfl rfl  (by first | exact trivial | exact rfl) ?hn ?_ | refine G211.step rfl rfl rfl rfl rfl  (by first | exact trivial | exact rfl) ?hn ?_ | refine G214.step rfl rfl rfl rfl rfl  (by first | exact trivial | exact rfl) ?hn ?_ | refine G17.step rfl rfl rfl rfl rfl rfl rfl (by first | exact rfl | assumption | omega | (simp only [List.length_set]; done)) (by first | exact trivial | exact rfl) ?hn ?_ | refine G18.step rfl rfl rfl rfl rfl rfl rfl (by first | exact rfl | assumption | omega | (simp only [List.length_set]; done)) (by first | exact trivial | exact rfl) ?hn ?_ | refine G23.step rfl rfl rfl rfl rfl rfl rfl (by first | exact rfl | assumption | omega | (simp only [List.length_set]; done)) (by first | exact trivial | exact rfl) ?hn ?_ | refine G32.step rfl rfl rfl rfl rfl rfl rfl (by first | exact rfl | assumption | omega | (simp only [List.length_set]; done)) (by first | exact trivial | exact rfl) ?hn ?_ | refine G33.step rfl rfl rfl rfl rfl rfl rfl (by first | exact rfl | assumption | omega | (simp only [List.length_set]; done)) (by first | exact trivial | exact rfl) ?hn ?_ | refine G34.step rfl rfl rfl rfl rfl rfl rfl (by first | exact rfl | assumption | omega | (simp only [List.length_set]; done)) (by first | exact trivial | exact rfl) ?hn ?_ | refine G36.step rfl rfl rfl rfl rfl rfl rfl (by first | exact rfl | assumption | omega | (simp only [List.length_set]; done)) (by first | exact trivial | exact rfl) ?hn ?_ | refine G40.step rfl rfl rfl rfl rfl rfl rfl (by first | exact rfl | assumption | omega | (simp only [List.length_set]; done)) (by first | exact trivial | exact rfl) ?hn ?_); (case hn => exact rfl); intro v hF; conv => whnf)
  | (revert hF; (refine zqB (d := iN) ?hz ?_); (case hz => exact rfl); intro x hF; conv => whnf)
  | ((with_reducible have hI := znM hF); clear hI; revert hF; (refine zi9 ?_); intro x hF; conv => whnf)
  | ((with_reducible have hI := zqJ hF); clear hI; revert hF; (refine znj ?_); intro x hF; conv => whnf)
  | (cases hF; (refine Or.inl ?_); (conv => whnf); exact ⟨rfl, rfl, rfl⟩)
  | ((with_reducible have hI := znK hF); clear hI; revert hF; (refine zj ?_); intro x hF; conv => whnf)
  | ((with_reducible have hI := znL hF); clear hI; revert hF; (refine zkn ?_); intro x hF; conv => whnf)
  | ((with_reducible have hI := zpN hF); clear hI; revert hF; (refine zpe ?hn ?_); (case hn => first | exact rfl | omega); intro hF; conv => whnf)
  | ((with_reducible have hI := zqI hF); clear hI; revert hF; (first | refine znJ (λ _ h => h) ?_ | refine zmf ?_); intro x hF; conv => whnf)
  | ((with_reducible have hI := zpN hF); clear hI; revert hF; (refine zpd ?hn ?_); (case hn => first | exact rfl | assumption | omega); intro hF; conv => whnf)
  | (revert hF; (with_reducible refine idx1 ?hn ?_); (case hn => first | exact rfl | exact (List.length_map _) | assumption | omega | simp); intro x hx hF; conv => whnf)
  | ((with_reducible have hG := zdi hF); clear hF; (first | ((refine zdy hG ?hn ?hs (λ q hF => ?_)); (case hn => first | exact rfl | assumption | omega); (case hs => exact rfl)) | ((refine zej (d := iN) hG ?hs (λ q hF => ?_)); (case hs => exact rfl)) | ((refine zek (d := iN) hG ?ho ?hn ?hs (λ q hF => ?_)); (case ho => exact rfl); (case hn => exact rfl); (case hs => exact rfl))); clear hG; conv => whnf)
  | ((with_reducible have hG := zdi hF); clear hF; (first | ((refine zdy hG ?hn ?hs (λ q hF => ?_)); (case hn => first | exact rfl | assumption | omega); (case hs => exact rfl)) | ((refine zej (d := u8N) hG ?hs (λ q hF => ?_)); (case hs => exact rfl)) | ((refine zek (d := u8N) hG ?ho ?hn ?hs (λ q hF => ?_)); (case ho => exact rfl); (case hn => exact rfl); (case hs => exact rfl))); clear hG; conv => whnf)
  | ((refine I97.fp (K := λ x => one x _ _ _ _) ?_); conv => whnf)
  | (revert hF; (refine I97.on_step ?_ ?_ ?_ ?_ ?_ ?_ ?_ ?_ ?_ ?_) <;> ((intros); (rename_i hx hF); (first | (cases hx; done) | (subst hx; (conv => whnf)) | (cases hx; (conv => whnf)) | (simp only [hx]; (conv => whnf)))))
  | ((with_reducible have hG := zdi hF); clear hF; (first | ((refine zdy hG ?hn ?hs (λ q hF => ?_)); (case hn => first | exact rfl | assumption | omega); (case hs => exact rfl)) | ((refine zej (d := strN) hG ?hs (λ q hF => ?_)); (case hs => exact rfl)) | ((refine zek (d := strN) hG ?ho ?hn ?hs (λ q hF => ?_)); (case ho => exact rfl); (case hn => exact rfl); (case hs => exact rfl))); clear hG; conv => whnf)
  | ((refine zko ?hn ?_); (case hn => first | exact rfl | (simp; done) | (simp; omega)); conv => whnf)
  | (have hF : (none : Option _) = some _ := hF; cases hF)
  | ((with_reducible refine znq ?hn ?_); (case hn => first | exact rfl | assumption | omega); conv => whnf)
  | ((with_reducible have hG := zfF hF); clear hF; (refine zi8 hG ?hs (λ q hl hF => ?_)); (case hs => exact rfl); clear hG; conv => whnf)
  | ((refine ⟨?hx, ?_⟩); (case hx => exact ⟨rfl, Nat.le_of_ble_eq_true rfl, rfl⟩); conv => whnf)
  | ((with_reducible refine zhP ?_); conv => whnf)
  | ((with_reducible refine zlb ?hx ?_); (case hx => first | exact rfl | assumption | exact notT (by assumption)); conv => whnf)
  | ((with_reducible have hG := zhS hF); clear hF; (refine ⟨?hx, ?_⟩); (case hx => (first | exact of_decide_eq_true hG.1 | exact hG.1)); have hF := hG.2; clear hG; conv => whnf)
  | ((refine zaq 1203 1204000000 rfl rfl (Nat.le_of_ble_eq_true rfl) rfl (λ R hR => ?_)); (conv => whnf); (with_reducible refine hR _ ?ha ?_); (case ha => exact rfl); clear R hR)
  | ((with_reducible refine zlc ?hx ?_); (case hx => first | exact rfl | assumption | exact notF (by assumption)); conv => whnf)
  | ((refine zaq 1400 1401000000 rfl rfl (Nat.le_of_ble_eq_true rfl) rfl (λ R hR => ?_)); (conv => whnf); (with_reducible refine hR _ ?ha ?_); (case ha => exact rfl); clear R hR)
  | ((refine zaq 1101 1102000000 rfl rfl (Nat.le_of_ble_eq_true rfl) rfl (λ R hR => ?_)); (conv => whnf); (with_reducible refine hR _ ?ha ?_); (case ha => exact rfl); clear R hR)
  | ((refine zaq 100 101000000 rfl rfl (Nat.le_of_ble_eq_true rfl) rfl (λ R hR => ?_)); (conv => whnf); (with_reducible refine hR _ ?ha ?_); (case ha => exact rfl); clear R hR)
  | ((refine zaq 1408 1409000000 rfl rfl (Nat.le_of_ble_eq_true rfl) rfl (λ R hR => ?_)); (conv => whnf); (with_reducible refine hR _ ?ha ?_); (case ha => exact rfl); clear R hR)
  | ((refine zaq 2200 2201000000 rfl rfl (Nat.le_of_ble_eq_true rfl) rfl (λ R hR => ?_)); (conv => whnf); (with_reducible refine hR _ ?ha ?_); (case ha => exact rfl); clear R hR)
  | ((refine zaq 1806 1807000000 rfl rfl (Nat.le_of_ble_eq_true rfl) rfl (λ R hR => ?_)); (conv => whnf); (with_reducible refine hR _ ?ha ?_); (case ha => exact rfl); clear R hR)
  | ((refine zaq 2000 2001000000 rfl rfl (Nat.le_of_ble_eq_true rfl) rfl (λ R hR => ?_)); (conv => whnf); (with_reducible refine hR _ ?ha ?_); (case ha => exact rfl); clear R hR)
  | (show Kinl _ _ _ _ _ _ _; conv => whnf)
  | ((with_reducible refine zdY ?ha ?hb ?_); (case ha => exact rfl); (case hb => exact rfl); conv => whnf)
  | ((refine ⟨?hx, trivial⟩); (case hx => (cases hF; exact rfl)))
  | ((refine ⟨?hx, ?_⟩); (case hx => decide); conv => whnf)
  | with_reducible refine zlw ?_
  | ((refine I97.fp (K := λ x => Q ⟨x, []⟩ _) ?_); conv => whnf)))
theorem P118 : A118 := zil.1
theorem P101 : A101 := zil.2.1
theorem Q17 : ∀ N : Nat, CallOK Tryz.prog 17 (effPg zkA (H17 N)) := zil.2.2.1
theorem P17 : A17 := za4 Q17
theorem Q18 : ∀ N : Nat, CallOK Tryz.prog 18 (effPg zif (H18 N)) := zil.2.2.2.1
theorem P18 : A18 := za4 Q18
theorem P83 : A83 := zil.2.2.2.2.1 P118
theorem P57 : A57 := zil.2.2.2.2.2.1 P83
theorem Q23 : ∀ N : Nat, CallOK Tryz.prog 23 (effPg zkC (H23 N)) := zil.2.2.2.2.2.2.1 P57
theorem P23 : A23 := za4 Q23
theorem P75 : A75 := zil.2.2.2.2.2.2.2.1 P101 P57
theorem P14 : A14 := zil.2.2.2.2.2.2.2.2 P23 P18 P17

end Go.Vc
namespace Go.Vc
open Go.Proofs
abbrev A10 : Prop := PureOK Tryz.prog 10 G10
set_option maxRecDepth 20000 in
set_option maxHeartbeats 400000000 in
theorem Wall3 : (A10) := by
 refine ⟨?g0⟩
 case' g0 =>
  refine zat (c := zap zai [(42, false, zbd (zap zai [(15, false, zbd (zap zai []) Tryz.f15), (18, true, effPg zif G18), (75, true, lendPg [[0]] G75), (74, true, lendPg [[0], [0]] G74), (73, true, zb5 [[0], [0]] G73), (72, true, lendPg [[0], [0]] G72), (30, true, lendPg [[0]] G30)]) Tryz.f42), (25, false, zbd (zap zai [(15, false, zbd (zap zai []) Tryz.f15), (18, true, effPg zif G18)]) Tryz.f25), (36, true, effPg zjx G36), (34, true, effPg zjw G34), (32, true, effPg zjv G32), (21, true, effPg zkw G21), (44, true, zb5 [] G44), (14, true, lendPg [] G14)]) rfl tyOK (zax (zaa Tryz.func42 rfl rfl) (CallOK.inl rfl tyOK (zax (zaa Tryz.func15 rfl rfl) (CallOK.inl rfl tyOK (zad) Tryz.func15 (by kernel_rfl)) (zah (zaa Tryz.func18 rfl rfl) P18 (zar (zaa Tryz.func75 rfl rfl) P75 (zar (zaa Tryz.func74 rfl rfl) P74 (zbp (zaa Tryz.func73 rfl rfl) P73 (zar (zaa Tryz.func72 rfl rfl) P72 (zar (zaa Tryz.func30 rfl rfl) P30 (zad)))))))) Tryz.func42 (by kernel_rfl)) (zax (zaa Tryz.func25 rfl rfl) (CallOK.inl rfl tyOK (zax (zaa Tryz.func15 rfl rfl) (CallOK.inl rfl tyOK (zad) Tryz.func15 (by kernel_rfl)) (zah (zaa Tryz.func18 rfl rfl) P18 (zad))) Tryz.func25 (by kernel_rfl)) (zah (zaa Tryz.func36 rfl rfl) P36 (zah (zaa Tryz.func34 rfl rfl) P34 (zah (zaa Tryz.func32 rfl rfl) P32 (zah (zaa Tryz.func21 rfl rfl) P21 (zbp (zaa Tryz.func44 rfl rfl) P44 (zar (zaa Tryz.func14 rfl rfl) P14 (zad))))))))) [[0]] 0 Tryz.func10 rfl rfl (by decide) (by kernel_rfl) ?_;rintro ds d ⟨N, r, rfl, hF, rfl⟩ hok;clear hok;refine ⟨rfl, ?_⟩;show vc _ _ _ _ ⟨[], []⟩ _;unfold f10 at hF
 all_goals (repeat' (first
  | ((with_reducible first | refine q0 _ _ ?_ | refine q1 _ _ _ _ ?_ | refine q2 _ _ _ ?_); clear Q q0 q1 q2)
  | ((with_reducible first | refine zkS ?hx (λ Q q0 q1 q2 => ?_) | refine zhp ?hx (λ Q q0 q1 q2 => ?_) | refine zhn ?hx (λ Q q0 q1 q2 => ?_) | refine zeT ?hx (λ Q q0 q1 q2 => ?_)); (case hx => exact rfl); conv => whnf)
  | ((with_reducible first | refine zho ?hx ?_ | refine zeR ?hx ?_ | refine zeU ?hx ?_ | refine zdO ?hx ?_ | refine zdM ?hx ?_ | refine zeO ?hx ?_); (case hx => exact rfl))
  | ((with_reducible refine zeA ?_); (first | ((first | refine zhX rfl ?hy (λ Q q0 q1 q2 => ?_) | refine ze5 rfl ?hy (λ Q q0 q1 q2 => ?_)); (case hy => first | assumption | exact notT (by assumption) | exact rfl); conv => whnf) | ((first | refine ze4 rfl ?hy ?_ | refine zdZ rfl ?hy ?_); (case hy => first | assumption | exact notF (by assumption) | exact rfl)) | (revert hF; (with_reducible first | refine zhY ?hx ?_ ?_ | refine ze6 ?hx ?_ ?_); (case hx => exact rfl); (intro hc hF Q q0 q1 q2; conv => whnf); rotate_left; (intro hc hF); rotate_right) | (revert hF; (with_reducible first | refine zhZ ?hx ?_ ?_ | refine ze7 ?hx ?_ ?_); (case hx => exact rfl); (intro hc hF); rotate_left; (intro hc hF Q q0 q1 q2; conv => whnf); rotate_right)))
  | ((with_reducible refine zhW ?_); (first | ((refine zld rfl ?hy ?_); (case hy => first | assumption | exact notT (by assumption) | exact rfl)) | ((refine zle rfl ?hy ?_); (case hy => first | assumption | exact notF (by assumption) | exact rfl)) | (revert hF; (with_reducible refine zo4 ?hx ?_ ?_); (case hx => exact rfl); all_goals (intro hc hF))))
  | ((with_reducible refine zeA ?_); (refine zeQ zs1 zsY (ks := []) rfl rfl ?_); dsimp only [St.kid]; (first | ((with_reducible refine hR _ ?_); clear R hR) | ((with_reducible refine hL _ ?_); clear L hL)))
  | ((with_reducible refine zeA ?_); (refine zeQ zs8 zs4 (ks := []) rfl rfl ?_); dsimp only [St.kid]; (first | ((with_reducible refine hR _ ?_); clear R hR) | ((with_reducible refine hL _ ?_); clear L hL)))
  | ((with_reducible refine zhm ?_); (first | ((with_reducible refine hR _ ?_); clear R hR) | ((with_reducible refine hL _ ?_); clear L hL)))
  | ((with_reducible refine zeS ?_); (with_reducible refine hR _ _ ?hx ?_); (case hx => kernel_rfl); clear R hR)
  | ((with_reducible first | refine ze1 ?_ | refine ze2 ?_ | refine idx2 (by assumption) ?_ | refine idx3 (by assumption) ?_); conv => whnf)
  | (with_reducible first | refine zeN ?_ | refine zhi ?_ | refine zkR ?_ | refine zhj ?_ | refine zdN (λ R hR => ?_) | refine zdK ?_ | refine zc6 ?_ | refine zoo ?_ | refine zdL ?_ | refine zc7 ?_ | refine zc8 ?_ | refine zcC ?_)
  | ((with_reducible refine zaY [ztg, zth, 7, ztg, zth, 6, ztg, zth, 102000000007, 102000000005] ?hx ?_); (case hx => exact rfl))
  | ((with_reducible refine zhk ?hx (λ R L hL hR => ?_)); (case hx => exact rfl))
  | ((with_reducible replace hF := isE hF); (dsimp only [zcM, zcN, zeF, zkF, zcO, zcP, zeH, zkG, zcQ, zcR, zeJ, zc3, zc4, zgn, zcc, zcd, zce, zcA] at hF); first | rewrite [zbT] at hF | rewrite [zbU] at hF | rewrite [zeE] at hF | rewrite [zjG] at hF | rewrite [zbV] at hF | rewrite [zbW] at hF | rewrite [zeG] at hF | rewrite [zjH] at hF | rewrite [zbX] at hF | rewrite [zbY] at hF | rewrite [zeI] at hF | rewrite [zcf] at hF | rewrite [zcg] at hF | rewrite [zgm] at hF)
  | ((with_reducible refine zhV ?_); first | ((with_reducible replace hF := toLp 1 5 hF); exact Lp.backI hF (_, ()) ⟨_, rfl, rfl, rfl, rfl⟩ (pr2 (by first | exact rfl | assumption | omega | (simp only [List.length_set]; done)) rfl)) | ((with_reducible replace hF := toLp 2 5 hF); exact Lp.backI hF (_, _) ⟨_, rfl, rfl, rfl, rfl⟩ (pr2 (by first | exact rfl | assumption | omega | (simp only [List.length_set]; done)) (by first | exact rfl | assumption | omega | (simp only [List.length_set]; done)))))
  | ((with_reducible refine zfI ?_); first | ((with_reducible replace hF := toLp 1 1 hF); exact Lp.headI hF (_, ()) ⟨_, rfl, rfl, rfl, rfl⟩ (pr2 (by first | exact rfl | assumption | omega | (simp only [List.length_set]; done)) rfl)) | ((with_reducible replace hF := toLp 1 4 hF); exact Lp.headI hF (_, ()) ⟨_, rfl, rfl, rfl, rfl⟩ (pr2 (by first | exact rfl | assumption | omega | (simp only [List.length_set]; done)) rfl)) | ((with_reducible replace hF := toLp 2 2 hF); exact Lp.headI hF (_, _) ⟨_, rfl, rfl, rfl, rfl⟩ (pr2 (by first | exact rfl | assumption | omega | (simp only [List.length_set]; done)) (by first | exact rfl | assumption | omega | (simp only [List.length_set]; done)))) | ((with_reducible replace hF := toLp 2 4 hF); exact Lp.headI hF (_, _) ⟨_, rfl, rfl, rfl, rfl⟩ (pr2 (by first | exact rfl | assumption | omega | (simp only [List.length_set]; done)) (by first | exact rfl | assumption | omega | (simp only [List.length_set]; done)))))
  | ((with_reducible refine zhT ?_); first | ((with_reducible replace hF := toLp 1 5 hF); ((refine Lp.loopI hF (_, ()) rfl ⟨_, rfl, rfl, rfl, rfl⟩ (pr2 (by first | exact rfl | assumption | omega | (simp only [List.length_set]; done)) rfl) (λ _ => rfl) ?_); clear hF); (rintro n ⟨_, _, _, _, _⟩ hF)) | ((with_reducible replace hF := toLp 2 5 hF); ((refine Lp.loopI hF (_, _) rfl ⟨_, rfl, rfl, rfl, rfl⟩ (pr2 (by first | exact rfl | assumption | omega | (simp only [List.length_set]; done)) (by first | exact rfl | assumption | omega | (simp only [List.length_set]; done))) (λ _ => rfl) ?_); clear hF); (rintro n ⟨_, _, _, _, _⟩ hF)))
  | ((with_reducible refine zhU ?_); first | ((with_reducible replace hF := zeM 1 hF); ((refine Lp.cutI hF rfl rfl ?_ ?_) <;> clear hF); (intro hF); rotate_left; (rintro _ hF); rotate_right) | ((with_reducible replace hF := zeM 2 hF); ((refine Lp.cutI hF rfl rfl ?_ ?_) <;> clear hF); (intro hF); rotate_left; (rintro ⟨_, _⟩ hF); rotate_right) | ((with_reducible replace hF := zeM 4 hF); ((refine Lp.cutI hF rfl rfl ?_ ?_) <;> clear hF); (intro hF); rotate_left; (rintro ⟨_, _, _, _⟩ hF); rotate_right))
  | ((with_reducible have hJ := isB hF); clear hJ; revert hF; (with_reducible first | refine G14.lend ?hx ?_ | refine G30.lend ?hx ?_ | refine G44.step ?hx ?_ | refine G72.lend ?hx ?_ | refine G73.step ?hx ?_ | refine G74.lend ?hx ?_ | refine G75.lend ?hx ?_); (case hx => exact rfl); intro v hF; conv => whnf)
  | ((with_reducible have hJ := isB hF); clear hJ; revert hF; (first | refine G18.step rfl rfl rfl rfl rfl rfl rfl (by first | exact rfl | assumption | omega | (simp only [List.length_set]; done)) (by first | exact trivial | exact rfl) ?hn ?_ | refine G21.step rfl rfl rfl rfl rfl rfl rfl (by first | exact rfl | assumption | omega | (simp only [List.length_set]; done)) (by first | exact trivial | exact rfl) ?hn ?_ | refine G32.step rfl rfl rfl rfl rfl rfl rfl (by first | exact rfl | assumption | omega | (simp only [List.length_set]; done)) (by first | exact trivial | exact rfl) ?hn ?_ | refine G34.step rfl rfl rfl rfl rfl rfl rfl (by first | exact rfl | assumption | omega | (simp only [List.length_set]; done)) (by first | exact trivial | exact rfl) ?hn ?_ | refine G36.step rfl rfl rfl rfl rfl rfl rfl (by first | exact rfl | assumption | omega | (simp only [List.length_set]; done)) (by first | exact trivial | exact rfl) ?hn ?_); (case hn => exact rfl); intro v hF; conv => whnf)
  | ((with_reducible have hI := znK hF); clear hI; revert hF; (refine zj ?_); intro x hF; conv => whnf)
  | (revert hF; (with_reducible refine idx1 ?hn ?_); (case hn => first | exact rfl | exact (List.length_map _) | assumption | omega | simp); intro x hx hF; conv => whnf)
  | ((with_reducible have hG := ze3 hF); clear hF; (refine zhQ hG (λ q hF => ?_)); clear hG; conv => whnf)
  | ((with_reducible refine zhP ?_); conv => whnf)
  | ((with_reducible refine zlb ?hx ?_); (case hx => first | exact rfl | assumption | exact notT (by assumption)); conv => whnf)
  | ((with_reducible refine zlc ?hx ?_); (case hx => first | exact rfl | assumption | exact notF (by assumption)); conv => whnf)
  | ((refine zaq 101 102000000 rfl rfl (Nat.le_of_ble_eq_true rfl) rfl (λ R hR => ?_)); (conv => whnf); (with_reducible refine hR _ ?ha ?_); (case ha => exact rfl); clear R hR)
  | ((refine zaq 500 ztj rfl rfl (Nat.le_of_ble_eq_true rfl) rfl (λ R hR => ?_)); (conv => whnf); (with_reducible refine hR _ ?ha ?_); (case ha => exact rfl); clear R hR)
  | ((refine zaq 600 ztj rfl rfl (Nat.le_of_ble_eq_true rfl) rfl (λ R hR => ?_)); (conv => whnf); (with_reducible refine hR _ ?ha ?_); (case ha => exact rfl); clear R hR)
  | ((refine zaq 700 ztj rfl rfl (Nat.le_of_ble_eq_true rfl) rfl (λ R hR => ?_)); (conv => whnf); (with_reducible refine hR _ ?ha ?_); (case ha => exact rfl); clear R hR)
  | ((refine zaq 102000100 102000101000000 rfl rfl (Nat.le_of_ble_eq_true rfl) rfl (λ R hR => ?_)); (conv => whnf); (with_reducible refine hR _ ?ha ?_); (case ha => exact rfl); clear R hR)
  | ((refine zaq 102000101000107000800 102000101000107000801000000 rfl rfl (Nat.le_of_ble_eq_true rfl) rfl (λ R hR => ?_)); (conv => whnf); (with_reducible refine hR _ ?ha ?_); (case ha => exact rfl); clear R hR)
  | (show Kinl _ _ _ _ _ _ _; conv => whnf)
  | ((with_reducible refine zdY ?ha ?hb ?_); (case ha => exact rfl); (case hb => exact rfl); conv => whnf)
  | ((refine ⟨?hx, trivial⟩); (case hx => (cases hF; exact rfl)))
  | ((refine ⟨?hx, ?_⟩); (case hx => decide); conv => whnf)
  | with_reducible refine zlw ?_))
theorem P10 : A10 := Wall3

end Go.Vc
namespace Go.Vc
theorem zpz : f10 200 = some true := by kernel_rfl
end Go.Vc
namespace Go.Vc
open Go.Proofs
theorem lx_of {l : List (String × DataW Unit)} (h1 : (l.filter λ x => x.1 == "internal/strconv.uint64pow10") = [("internal/strconv.uint64pow10", Lib.tabData .u64 Lib.pow10Tab)]) {w : World} (h : laidMetH Tryz.prog l w.memory) : LX Tryz.prog w := by
 have h2 := laidMetH.filter (λ x => x.1 == "internal/strconv.uint64pow10") h
 rw [h1, MakeChecks.laidMetH_plain _ _ _ (by rfl)] at h2;exact LX.heap (w := w.memory) (Lib.tabIs_of_head (g := 0) (t := 226) (e := 182) (n := 20) (by kernel_rfl) (by kernel_rfl) (by kernel_rfl) (by kernel_rfl) (by kernel_rfl) (by kernel_rfl) h2) rfl
end Go.Vc

/-
  A library for proofs about Go functions by symbolic evaluation, and plain Lean functions that the walked Go functions compute (written by a program of this claim).
-/
import Derived.Test.YtijmkjnlgcockaaGreatDoorFKF1
import Derived.Test.YtijmkjnlgcockaaGreatDoorVc3
import Derived.Test.YtijmkjnlgcockaaGreatDoorProg
import Derived.LaidSub
import Derived.MakeChecks
set_option linter.unusedVariables false
set_option linter.unnecessarySimpa false
set_option linter.unusedSimpArgs false
namespace Go.Vc
open Go.Proofs
def f10_i700_c18 (N : Nat) (b106_1 : LB) (b100 : LS) (b101 : LE) (b102 : LC) (x2 : Int × ByteArray × Int) (x3 : Int × Int) (x4 : Tally × Int) (v10 : Int) (v12 : Int) (b106_1' : LB) (b100' : LS) (b101' : LE) (b102' : LC) : Option (Bool) :=
 bif decide (x2.2.2 = (0 : Int)) then (bif decide (x3.2 = (5 : Int)) then (bif decide (x4.2 = (5 : Int)) then (bif decide (v10 = (13 : Int)) then (bif decide (v12 = (17 : Int)) then (bif decide (x2.1 = (2 : Int)) then (bif decide (x2.2.1 = (strC [109, 97, 112])) then ((f21 N b106_1 b100 b101 b102).bind λ x11 =>
 bif decide ((List.length x11 : Int) = (10 : Int)) then ((f14 N ).bind λ x12 =>
 some (x12))
 else (some (false)))
 else (some (false)))
 else (some (false)))
 else (some (false)))
 else (some (false)))
 else (some (false)))
 else (some (false)))
 else (some (false))
def Lf10_i700_c18 (N : Nat) (b106_1 : LB) (b100 : LS) (b101 : LE) (b102 : LC) (x2 : Int × ByteArray × Int) (x3 : Int × Int) (x4 : Tally × Int) (v10 : Int) (v12 : Int) : Lp (LB × LS × LE × LC) (Nat × Nat) (Bool) := lpm ⟨[5], [102090500, 102000101000100, 102000101000101, 102000101000102, 102000101000104, 102000101000106, 102000101000107090520, 102000101000107000801000100, 102000101000107000801000101, 102000101000107000801000102, 102000101000107000801000104, 102000101000107000801000106], [(.cell 102000101000107000801000106 1, 102000101000107090520, 9, 1)], []⟩ (λ (b106_1', b100', b101', b102') => f10_i700_c18 N b106_1 b100 b101 b102 x2 x3 x4 v10 v12 b106_1' b100' b101' b102') (λ (_, _, _, _) (_, _) => [.ptr 102000101000107000801000106 0]) (λ (b106_1', b100', b101', b102') (m0, m1) => [.row 9 1 (List.map strN b106_1), .fam [102000101000101] (encF strN StoneM.m b100) [], .fam [] (encF strN EditionM.m b101) [], .mp (encM strN bN b102), .box [.mp 102000101000100, .mp 102000101000101, .mp 102000101000102], .box [.ptr 102000101000104 0, .rs 102090500 m0], .row 9 1 (List.map strN (b106_1')), .fam [102000101000107000801000101] (encF strN StoneM.m (b100')) [], .fam [] (encF strN EditionM.m (b101')) [], .mp (encM strN bN (b102')), .box [.mp 102000101000107000801000100, .mp 102000101000107000801000101, .mp 102000101000107000801000102], .box [.ptr 102000101000107000801000104 0, .rs 102000101000107090520 m1]]) λ (b106_1', _, _, _) => (List.length b106_1, List.length (b106_1'))
instance Ef10_i700_c18 {N b106_1 b100 b101 b102 x2 x3 x4 v10 v12 b106_1' b100' b101' b102'} : IsLp 2 4 (f10_i700_c18 N b106_1 b100 b101 b102 x2 x3 x4 v10 v12 b106_1' b100' b101' b102') (Lf10_i700_c18 N b106_1 b100 b101 b102 x2 x3 x4 v10 v12) (b106_1', b100', b101', b102') := ⟨rfl⟩
instance Cf10_i700_c18 {N b106_1 b100 b101 b102 x2 x3 x4 v10 v12} : IsCut 4 (f10_i700_c18 N b106_1 b100 b101 b102 x2 x3 x4 v10 v12) (Lf10_i700_c18 N b106_1 b100 b101 b102 x2 x3 x4 v10 v12) 102000101000107000000018 := ⟨⟩
def f10_i700_c13 (N : Nat) (b106_1 : LB) (b100 : LS) (b101 : LE) (b102 : LC) (x2 : Int × ByteArray × Int) (x3 : Int × Int) (x4 : Tally × Int) (v10 : Int) (v12 : Int) (x13 : LB) (v34 : Int) (b106_1' : LB) (b100' : LS) (b101' : LE) (b102' : LC) (r10 : Int -> LB -> LS -> LE -> LC -> Option (Bool)) (line8 : ByteArray) (e9 : Int) : Option (Bool) :=
 bif decide (e9 = (0 : Int)) then ((f18 N line8 (b106_1') (b100') (b101') (b102')).bind λ x15 =>
 bif decide (¬ x15.1 = (0 : Int)) then (bif decide (x2.2.2 = (0 : Int)) then (bif decide (x3.2 = (5 : Int)) then (bif decide (x4.2 = (5 : Int)) then (bif decide (v10 = (13 : Int)) then (bif decide (v12 = (17 : Int)) then (bif decide (x15.1 = (0 : Int)) then (some (false))
 else (some (false)))
 else (some (false)))
 else (some (false)))
 else (some (false)))
 else (some (false)))
 else (some (false)))
 else (r10 (W (v34 + (1 : Int))) x15.2.2.2.2 x15.2.1 x15.2.2.1 x15.2.2.2.1))
 else (bif decide (¬ e9 = (0 : Int)) then (bif decide (x2.2.2 = (0 : Int)) then (bif decide (x3.2 = (5 : Int)) then (bif decide (x4.2 = (5 : Int)) then (bif decide (v10 = (13 : Int)) then (bif decide (v12 = (17 : Int)) then (some (false))
 else (some (false)))
 else (some (false)))
 else (some (false)))
 else (some (false)))
 else (some (false)))
 else (r10 (W (v34 + (1 : Int))) (b106_1') (b100') (b101') (b102')))
def Lf10_i700_c13 (N : Nat) (b106_1 : LB) (b100 : LS) (b101 : LE) (b102 : LC) (x2 : Int × ByteArray × Int) (x3 : Int × Int) (x4 : Tally × Int) (v10 : Int) (v12 : Int) (x13 : LB) (v34 : Int) (b106_1' : LB) (b100' : LS) (b101' : LE) (b102' : LC) (r10 : Int -> LB -> LS -> LE -> LC -> Option (Bool)) : Lp (ByteArray × Int) (Nat × Nat) (Bool) := lpm ⟨[5, 8, 9, 32, 33, 34], [102090500, 102000101000100, 102000101000101, 102000101000102, 102000101000104, 102000101000106, 102000101000107090520, 102000101000107000801000100, 102000101000107000801000101, 102000101000107000801000102, 102000101000107000801000104, 102000101000107000801000106], [], []⟩ (λ (line8, e9) => f10_i700_c13 N b106_1 b100 b101 b102 x2 x3 x4 v10 v12 x13 v34 b106_1' b100' b101' b102' r10 line8 e9) (λ (line8, e9) (_, _) => [.ptr 102000101000107000801000106 0, .dat (strN line8), .dat (iN e9), .dat (sl_strN x13), .dat (iN (List.length x13 : Int)), .dat (iN v34)]) (λ (_, _) (m0, m1) => [.row 9 1 (List.map strN b106_1), .fam [102000101000101] (encF strN StoneM.m b100) [], .fam [] (encF strN EditionM.m b101) [], .mp (encM strN bN b102), .box [.mp 102000101000100, .mp 102000101000101, .mp 102000101000102], .box [.ptr 102000101000104 0, .rs 102090500 m0], .row 9 1 (List.map strN (b106_1')), .fam [102000101000107000801000101] (encF strN StoneM.m (b100')) [], .fam [] (encF strN EditionM.m (b101')) [], .mp (encM strN bN (b102')), .box [.mp 102000101000107000801000100, .mp 102000101000107000801000101, .mp 102000101000107000801000102], .box [.ptr 102000101000107000801000104 0, .rs 102000101000107090520 m1]]) λ (_, _) => (List.length b106_1, List.length (b106_1'))
instance Ef10_i700_c13 {N b106_1 b100 b101 b102 x2 x3 x4 v10 v12 x13 v34 b106_1' b100' b101' b102' r10 line8 e9} : IsLp 2 2 (f10_i700_c13 N b106_1 b100 b101 b102 x2 x3 x4 v10 v12 x13 v34 b106_1' b100' b101' b102' r10 line8 e9) (Lf10_i700_c13 N b106_1 b100 b101 b102 x2 x3 x4 v10 v12 x13 v34 b106_1' b100' b101' b102' r10) (line8, e9) := ⟨rfl⟩
instance Cf10_i700_c13 {N b106_1 b100 b101 b102 x2 x3 x4 v10 v12 x13 v34 b106_1' b100' b101' b102' r10} : IsCut 2 (f10_i700_c13 N b106_1 b100 b101 b102 x2 x3 x4 v10 v12 x13 v34 b106_1' b100' b101' b102' r10) (Lf10_i700_c13 N b106_1 b100 b101 b102 x2 x3 x4 v10 v12 x13 v34 b106_1' b100' b101' b102' r10) 102000101000107000000013 := ⟨⟩
def f10_i700_10b (r10 : Int -> LB -> LS -> LE -> LC -> Option (Bool)) (N : Nat) (b106_1 : LB) (b100 : LS) (b101 : LE) (b102 : LC) (x2 : Int × ByteArray × Int) (x3 : Int × Int) (x4 : Tally × Int) (v10 : Int) (v12 : Int) (k0 : LB -> LS -> LE -> LC -> Option (Bool)) (x13 : LB) (v34 : Int) (b106_1' : LB) (b100' : LS) (b101' : LE) (b102' : LC) : Option (Bool) :=
 bif decide (v34 < (List.length x13 : Int)) then ((ix x13 v34).bind λ x14 =>
 joinK (f10_i700_c13 N b106_1 b100 b101 b102 x2 x3 x4 v10 v12 x13 v34 b106_1' b100' b101' b102' r10) λ k1 =>
 (f75 N x14).bind λ x16 =>
 k1 x16.1 x16.2)
 else (k0 (b106_1') (b100') (b101') (b102'))
def f10_i700_10 (N : Nat) (b106_1 : LB) (b100 : LS) (b101 : LE) (b102 : LC) (x2 : Int × ByteArray × Int) (x3 : Int × Int) (x4 : Tally × Int) (v10 : Int) (v12 : Int) (k0 : LB -> LS -> LE -> LC -> Option (Bool)) (x13 : LB) : Nat -> Int -> LB -> LS -> LE -> LC -> Option (Bool)
 | 0, _, _, _, _, _ => none
 | n + 1, v34, b106_1', b100', b101', b102' => f10_i700_10b (f10_i700_10 N b106_1 b100 b101 b102 x2 x3 x4 v10 v12 k0 x13 n) N b106_1 b100 b101 b102 x2 x3 x4 v10 v12 k0 x13 v34 b106_1' b100' b101' b102'
def Lf10_i700_10 (N : Nat) (b106_1 : LB) (b100 : LS) (b101 : LE) (b102 : LC) (x2 : Int × ByteArray × Int) (x3 : Int × Int) (x4 : Tally × Int) (v10 : Int) (v12 : Int) (k0 : LB -> LS -> LE -> LC -> Option (Bool)) (x13 : LB) : Lp (Nat × Int × LB × LS × LE × LC) (Nat × Nat) (Bool) := lpm ⟨[5, 32, 33, 34], [102090500, 102000101000100, 102000101000101, 102000101000102, 102000101000104, 102000101000106, 102000101000107090520, 102000101000107000801000100, 102000101000107000801000101, 102000101000107000801000102, 102000101000107000801000104, 102000101000107000801000106], [(.cell 102000101000107000801000106 1, 102000101000107090520, 9, 1)], []⟩ (λ (n, v34, b106_1', b100', b101', b102') => f10_i700_10 N b106_1 b100 b101 b102 x2 x3 x4 v10 v12 k0 x13 n v34 b106_1' b100' b101' b102') (λ (_, v34, _, _, _, _) (_, _) => [.ptr 102000101000107000801000106 0, .dat (sl_strN x13), .dat (iN (List.length x13 : Int)), .dat (iN v34)]) (λ (_, _, b106_1', b100', b101', b102') (m0, m1) => [.row 9 1 (List.map strN b106_1), .fam [102000101000101] (encF strN StoneM.m b100) [], .fam [] (encF strN EditionM.m b101) [], .mp (encM strN bN b102), .box [.mp 102000101000100, .mp 102000101000101, .mp 102000101000102], .box [.ptr 102000101000104 0, .rs 102090500 m0], .row 9 1 (List.map strN (b106_1')), .fam [102000101000107000801000101] (encF strN StoneM.m (b100')) [], .fam [] (encF strN EditionM.m (b101')) [], .mp (encM strN bN (b102')), .box [.mp 102000101000107000801000100, .mp 102000101000107000801000101, .mp 102000101000107000801000102], .box [.ptr 102000101000107000801000104 0, .rs 102000101000107090520 m1]]) λ (_, _, b106_1', _, _, _) => (List.length b106_1, List.length (b106_1'))
instance Ef10_i700_10 {N b106_1 b100 b101 b102 x2 x3 x4 v10 v12 k0 x13 n v34 b106_1' b100' b101' b102'} : IsLp 2 5 (f10_i700_10 N b106_1 b100 b101 b102 x2 x3 x4 v10 v12 k0 x13 n v34 b106_1' b100' b101' b102') (Lf10_i700_10 N b106_1 b100 b101 b102 x2 x3 x4 v10 v12 k0 x13) (n, v34, b106_1', b100', b101', b102') := ⟨rfl⟩
def f10_c7 (N : Nat) (b106_1 : LB) (b100 : LS) (b101 : LE) (b102 : LC) (x2 : Int × ByteArray × Int) (x3 : Int × Int) (x4 : Tally × Int) (v10 : Int) (v12 : Int) : Option (Bool) :=
 (f72 N (strC [116, 117, 115, 99, 104, 101, 32, 49, 10, 101, 100, 105, 116, 105, 111, 110, 32, 97, 32, 52, 49, 55, 48, 54, 10]) (strC [10])).bind λ x5 =>
 bif !x5 then (bif decide (x2.2.2 = (0 : Int)) then (bif decide (x3.2 = (5 : Int)) then (bif decide (x4.2 = (5 : Int)) then (bif decide (v10 = (13 : Int)) then (bif decide (v12 = (17 : Int)) then (some (false))
 else (some (false)))
 else (some (false)))
 else (some (false)))
 else (some (false)))
 else (some (false)))
 else ((f74 N (strC [116, 117, 115, 99, 104, 101, 32, 49, 10, 101, 100, 105, 116, 105, 111, 110, 32, 97, 32, 52, 49, 55, 48, 54, 10]) (strC [10])).bind λ x6 =>
 (f73 N x6 (strC [10])).bind λ x7 =>
 (ix x7 (0 : Int)).bind λ x8 =>
 (f30 N (W ((List.length x7 : Int) - (1 : Int)))).bind λ x9 =>
 (addS (strC [116, 117, 115, 99, 104, 101, 32]) x9).bind λ x10 =>
 bif decide (¬ x8 = x10) then (bif decide (x2.2.2 = (0 : Int)) then (bif decide (x3.2 = (5 : Int)) then (bif decide (x4.2 = (5 : Int)) then (bif decide (v10 = (13 : Int)) then (bif decide (v12 = (17 : Int)) then (some (false))
 else (some (false)))
 else (some (false)))
 else (some (false)))
 else (some (false)))
 else (some (false)))
 else (joinK (f10_i700_c18 N b106_1 b100 b101 b102 x2 x3 x4 v10 v12) λ k0 =>
 (sub x7 (1 : Int) (List.length x7 : Int)).bind λ x13 =>
 f10_i700_10 N b106_1 b100 b101 b102 x2 x3 x4 v10 v12 k0 x13 N (0 : Int) [] [] [] []))
def Lf10_c7 (N : Nat) (b106_1 : LB) (b100 : LS) (b101 : LE) (b102 : LC) (x2 : Int × ByteArray × Int) (x3 : Int × Int) (x4 : Tally × Int) (v10 : Int) : Lp (Int) (Nat × Unit) (Bool) := lpm ⟨[1, 2, 3, 4, 6, 8, 10, 12], [102090500, 102000101000100, 102000101000101, 102000101000102, 102000101000104, 102000101000106], [], []⟩ (λ v12 => f10_c7 N b106_1 b100 b101 b102 x2 x3 x4 v10 v12) (λ v12 (_, _) => [.ptr 102000101000106 0, .dat (iN x2.1), .dat (strN x2.2.1), .dat (iN x2.2.2), .dat (iN x3.2), .dat (iN x4.2), .dat (iN v10), .dat (iN v12)]) (λ _ (m0, _) => [.row 9 1 (List.map strN b106_1), .fam [102000101000101] (encF strN StoneM.m b100) [], .fam [] (encF strN EditionM.m b101) [], .mp (encM strN bN b102), .box [.mp 102000101000100, .mp 102000101000101, .mp 102000101000102], .box [.ptr 102000101000104 0, .rs 102090500 m0]]) λ _ => (List.length b106_1, ())
instance Ef10_c7 {N b106_1 b100 b101 b102 x2 x3 x4 v10 v12} : IsLp 1 1 (f10_c7 N b106_1 b100 b101 b102 x2 x3 x4 v10 v12) (Lf10_c7 N b106_1 b100 b101 b102 x2 x3 x4 v10) v12 := ⟨rfl⟩
instance Cf10_c7 {N b106_1 b100 b101 b102 x2 x3 x4 v10} : IsCut 1 (f10_c7 N b106_1 b100 b101 b102 x2 x3 x4 v10) (Lf10_c7 N b106_1 b100 b101 b102 x2 x3 x4 v10) 7 := ⟨⟩
def f10_i600_c18 (b106_1 : LB) (b100 : LS) (b101 : LE) (b102 : LC) (k2 : Int -> Option (Bool)) (b106_1' : LB) (b100' : LS) (b101' : LE) (b102' : LC) : Option (Bool) :=
 k2 (0 : Int)
def Lf10_i600_c18 (b106_1 : LB) (b100 : LS) (b101 : LE) (b102 : LC) (k2 : Int -> Option (Bool)) : Lp (LB × LS × LE × LC) (Nat × Nat) (Bool) := lpm ⟨[5], [102090500, 102000101000100, 102000101000101, 102000101000102, 102000101000104, 102000101000106, 102000101000107090520, 102000101000107000801000100, 102000101000107000801000101, 102000101000107000801000102, 102000101000107000801000104, 102000101000107000801000106], [(.cell 102000101000107000801000106 1, 102000101000107090520, 9, 1)], []⟩ (λ (b106_1', b100', b101', b102') => f10_i600_c18 b106_1 b100 b101 b102 k2 b106_1' b100' b101' b102') (λ (_, _, _, _) (_, _) => [.ptr 102000101000107000801000106 0]) (λ (b106_1', b100', b101', b102') (m0, m1) => [.row 9 1 (List.map strN b106_1), .fam [102000101000101] (encF strN StoneM.m b100) [], .fam [] (encF strN EditionM.m b101) [], .mp (encM strN bN b102), .box [.mp 102000101000100, .mp 102000101000101, .mp 102000101000102], .box [.ptr 102000101000104 0, .rs 102090500 m0], .row 9 1 (List.map strN (b106_1')), .fam [102000101000107000801000101] (encF strN StoneM.m (b100')) [], .fam [] (encF strN EditionM.m (b101')) [], .mp (encM strN bN (b102')), .box [.mp 102000101000107000801000100, .mp 102000101000107000801000101, .mp 102000101000107000801000102], .box [.ptr 102000101000107000801000104 0, .rs 102000101000107090520 m1]]) λ (b106_1', _, _, _) => (List.length b106_1, List.length (b106_1'))
instance Ef10_i600_c18 {b106_1 b100 b101 b102 k2 b106_1' b100' b101' b102'} : IsLp 2 4 (f10_i600_c18 b106_1 b100 b101 b102 k2 b106_1' b100' b101' b102') (Lf10_i600_c18 b106_1 b100 b101 b102 k2) (b106_1', b100', b101', b102') := ⟨rfl⟩
instance Cf10_i600_c18 {b106_1 b100 b101 b102 k2} : IsCut 4 (f10_i600_c18 b106_1 b100 b101 b102 k2) (Lf10_i600_c18 b106_1 b100 b101 b102 k2) 102000101000107000000018 := ⟨⟩
def f10_i600_c13 (N : Nat) (b106_1 : LB) (b100 : LS) (b101 : LE) (b102 : LC) (k2 : Int -> Option (Bool)) (x23 : LB) (v34 : Int) (b106_1' : LB) (b100' : LS) (b101' : LE) (b102' : LC) (r10 : Int -> LB -> LS -> LE -> LC -> Option (Bool)) (line8 : ByteArray) (e9 : Int) : Option (Bool) :=
 bif decide (e9 = (0 : Int)) then ((f18 N line8 (b106_1') (b100') (b101') (b102')).bind λ x25 =>
 bif decide (¬ x25.1 = (0 : Int)) then (k2 x25.1)
 else (r10 (W (v34 + (1 : Int))) x25.2.2.2.2 x25.2.1 x25.2.2.1 x25.2.2.2.1))
 else (bif decide (¬ e9 = (0 : Int)) then (k2 e9)
 else (r10 (W (v34 + (1 : Int))) (b106_1') (b100') (b101') (b102')))
def Lf10_i600_c13 (N : Nat) (b106_1 : LB) (b100 : LS) (b101 : LE) (b102 : LC) (k2 : Int -> Option (Bool)) (x23 : LB) (v34 : Int) (b106_1' : LB) (b100' : LS) (b101' : LE) (b102' : LC) (r10 : Int -> LB -> LS -> LE -> LC -> Option (Bool)) : Lp (ByteArray × Int) (Nat × Nat) (Bool) := lpm ⟨[5, 8, 9, 32, 33, 34], [102090500, 102000101000100, 102000101000101, 102000101000102, 102000101000104, 102000101000106, 102000101000107090520, 102000101000107000801000100, 102000101000107000801000101, 102000101000107000801000102, 102000101000107000801000104, 102000101000107000801000106], [], []⟩ (λ (line8, e9) => f10_i600_c13 N b106_1 b100 b101 b102 k2 x23 v34 b106_1' b100' b101' b102' r10 line8 e9) (λ (line8, e9) (_, _) => [.ptr 102000101000107000801000106 0, .dat (strN line8), .dat (iN e9), .dat (sl_strN x23), .dat (iN (List.length x23 : Int)), .dat (iN v34)]) (λ (_, _) (m0, m1) => [.row 9 1 (List.map strN b106_1), .fam [102000101000101] (encF strN StoneM.m b100) [], .fam [] (encF strN EditionM.m b101) [], .mp (encM strN bN b102), .box [.mp 102000101000100, .mp 102000101000101, .mp 102000101000102], .box [.ptr 102000101000104 0, .rs 102090500 m0], .row 9 1 (List.map strN (b106_1')), .fam [102000101000107000801000101] (encF strN StoneM.m (b100')) [], .fam [] (encF strN EditionM.m (b101')) [], .mp (encM strN bN (b102')), .box [.mp 102000101000107000801000100, .mp 102000101000107000801000101, .mp 102000101000107000801000102], .box [.ptr 102000101000107000801000104 0, .rs 102000101000107090520 m1]]) λ (_, _) => (List.length b106_1, List.length (b106_1'))
instance Ef10_i600_c13 {N b106_1 b100 b101 b102 k2 x23 v34 b106_1' b100' b101' b102' r10 line8 e9} : IsLp 2 2 (f10_i600_c13 N b106_1 b100 b101 b102 k2 x23 v34 b106_1' b100' b101' b102' r10 line8 e9) (Lf10_i600_c13 N b106_1 b100 b101 b102 k2 x23 v34 b106_1' b100' b101' b102' r10) (line8, e9) := ⟨rfl⟩
instance Cf10_i600_c13 {N b106_1 b100 b101 b102 k2 x23 v34 b106_1' b100' b101' b102' r10} : IsCut 2 (f10_i600_c13 N b106_1 b100 b101 b102 k2 x23 v34 b106_1' b100' b101' b102' r10) (Lf10_i600_c13 N b106_1 b100 b101 b102 k2 x23 v34 b106_1' b100' b101' b102' r10) 102000101000107000000013 := ⟨⟩
def f10_i600_10b (r10 : Int -> LB -> LS -> LE -> LC -> Option (Bool)) (N : Nat) (b106_1 : LB) (b100 : LS) (b101 : LE) (b102 : LC) (k2 : Int -> Option (Bool)) (k3 : LB -> LS -> LE -> LC -> Option (Bool)) (x23 : LB) (v34 : Int) (b106_1' : LB) (b100' : LS) (b101' : LE) (b102' : LC) : Option (Bool) :=
 bif decide (v34 < (List.length x23 : Int)) then ((ix x23 v34).bind λ x24 =>
 joinK (f10_i600_c13 N b106_1 b100 b101 b102 k2 x23 v34 b106_1' b100' b101' b102' r10) λ k4 =>
 (f75 N x24).bind λ x26 =>
 k4 x26.1 x26.2)
 else (k3 (b106_1') (b100') (b101') (b102'))
def f10_i600_10 (N : Nat) (b106_1 : LB) (b100 : LS) (b101 : LE) (b102 : LC) (k2 : Int -> Option (Bool)) (k3 : LB -> LS -> LE -> LC -> Option (Bool)) (x23 : LB) : Nat -> Int -> LB -> LS -> LE -> LC -> Option (Bool)
 | 0, _, _, _, _, _ => none
 | n + 1, v34, b106_1', b100', b101', b102' => f10_i600_10b (f10_i600_10 N b106_1 b100 b101 b102 k2 k3 x23 n) N b106_1 b100 b101 b102 k2 k3 x23 v34 b106_1' b100' b101' b102'
def Lf10_i600_10 (N : Nat) (b106_1 : LB) (b100 : LS) (b101 : LE) (b102 : LC) (k2 : Int -> Option (Bool)) (k3 : LB -> LS -> LE -> LC -> Option (Bool)) (x23 : LB) : Lp (Nat × Int × LB × LS × LE × LC) (Nat × Nat) (Bool) := lpm ⟨[5, 32, 33, 34], [102090500, 102000101000100, 102000101000101, 102000101000102, 102000101000104, 102000101000106, 102000101000107090520, 102000101000107000801000100, 102000101000107000801000101, 102000101000107000801000102, 102000101000107000801000104, 102000101000107000801000106], [(.cell 102000101000107000801000106 1, 102000101000107090520, 9, 1)], []⟩ (λ (n, v34, b106_1', b100', b101', b102') => f10_i600_10 N b106_1 b100 b101 b102 k2 k3 x23 n v34 b106_1' b100' b101' b102') (λ (_, v34, _, _, _, _) (_, _) => [.ptr 102000101000107000801000106 0, .dat (sl_strN x23), .dat (iN (List.length x23 : Int)), .dat (iN v34)]) (λ (_, _, b106_1', b100', b101', b102') (m0, m1) => [.row 9 1 (List.map strN b106_1), .fam [102000101000101] (encF strN StoneM.m b100) [], .fam [] (encF strN EditionM.m b101) [], .mp (encM strN bN b102), .box [.mp 102000101000100, .mp 102000101000101, .mp 102000101000102], .box [.ptr 102000101000104 0, .rs 102090500 m0], .row 9 1 (List.map strN (b106_1')), .fam [102000101000107000801000101] (encF strN StoneM.m (b100')) [], .fam [] (encF strN EditionM.m (b101')) [], .mp (encM strN bN (b102')), .box [.mp 102000101000107000801000100, .mp 102000101000107000801000101, .mp 102000101000107000801000102], .box [.ptr 102000101000107000801000104 0, .rs 102000101000107090520 m1]]) λ (_, _, b106_1', _, _, _) => (List.length b106_1, List.length (b106_1'))
instance Ef10_i600_10 {N b106_1 b100 b101 b102 k2 k3 x23 n v34 b106_1' b100' b101' b102'} : IsLp 2 5 (f10_i600_10 N b106_1 b100 b101 b102 k2 k3 x23 n v34 b106_1' b100' b101' b102') (Lf10_i600_10 N b106_1 b100 b101 b102 k2 k3 x23) (n, v34, b106_1', b100', b101', b102') := ⟨rfl⟩
def f10_c6 (N : Nat) (b106_1 : LB) (b100 : LS) (b101 : LE) (b102 : LC) (x2 : Int × ByteArray × Int) (x3 : Int × Int) (x4 : Tally × Int) (v10 : Int) : Option (Bool) :=
 joinK (f10_c7 N b106_1 b100 b101 b102 x2 x3 x4 v10) λ k2 =>
 (f72 N (strC [116, 117, 115, 99, 104, 101, 32, 49, 10, 101, 100, 105, 116, 105, 111, 110, 32, 98, 32, 52, 49, 55, 48, 54, 10]) (strC [10])).bind λ x17 =>
 bif !x17 then (k2 (18 : Int))
 else ((f74 N (strC [116, 117, 115, 99, 104, 101, 32, 49, 10, 101, 100, 105, 116, 105, 111, 110, 32, 98, 32, 52, 49, 55, 48, 54, 10]) (strC [10])).bind λ x18 =>
 (f73 N x18 (strC [10])).bind λ x19 =>
 (ix x19 (0 : Int)).bind λ x20 =>
 (f30 N (W ((List.length x19 : Int) - (1 : Int)))).bind λ x21 =>
 (addS (strC [116, 117, 115, 99, 104, 101, 32]) x21).bind λ x22 =>
 bif decide (¬ x20 = x22) then (k2 (9 : Int))
 else (joinK (f10_i600_c18 b106_1 b100 b101 b102 k2) λ k3 =>
 (sub x19 (1 : Int) (List.length x19 : Int)).bind λ x23 =>
 f10_i600_10 N b106_1 b100 b101 b102 k2 k3 x23 N (0 : Int) [] [] [] []))
def Lf10_c6 (N : Nat) (b106_1 : LB) (b100 : LS) (b101 : LE) (b102 : LC) (x2 : Int × ByteArray × Int) (x3 : Int × Int) (x4 : Tally × Int) : Lp (Int) (Nat × Unit) (Bool) := lpm ⟨[1, 2, 3, 4, 6, 8, 10], [102090500, 102000101000100, 102000101000101, 102000101000102, 102000101000104, 102000101000106], [], []⟩ (λ v10 => f10_c6 N b106_1 b100 b101 b102 x2 x3 x4 v10) (λ v10 (_, _) => [.ptr 102000101000106 0, .dat (iN x2.1), .dat (strN x2.2.1), .dat (iN x2.2.2), .dat (iN x3.2), .dat (iN x4.2), .dat (iN v10)]) (λ _ (m0, _) => [.row 9 1 (List.map strN b106_1), .fam [102000101000101] (encF strN StoneM.m b100) [], .fam [] (encF strN EditionM.m b101) [], .mp (encM strN bN b102), .box [.mp 102000101000100, .mp 102000101000101, .mp 102000101000102], .box [.ptr 102000101000104 0, .rs 102090500 m0]]) λ _ => (List.length b106_1, ())
instance Ef10_c6 {N b106_1 b100 b101 b102 x2 x3 x4 v10} : IsLp 1 1 (f10_c6 N b106_1 b100 b101 b102 x2 x3 x4 v10) (Lf10_c6 N b106_1 b100 b101 b102 x2 x3 x4) v10 := ⟨rfl⟩
instance Cf10_c6 {N b106_1 b100 b101 b102 x2 x3 x4} : IsCut 1 (f10_c6 N b106_1 b100 b101 b102 x2 x3 x4) (Lf10_c6 N b106_1 b100 b101 b102 x2 x3 x4) 6 := ⟨⟩
def f10_i500_c18 (b106_1 : LB) (b100 : LS) (b101 : LE) (b102 : LC) (x4 : Tally × Int) (k5 : Int -> Option (Bool)) (b106_1' : LB) (b100' : LS) (b101' : LE) (b102' : LC) : Option (Bool) :=
 k5 (0 : Int)
def Lf10_i500_c18 (b106_1 : LB) (b100 : LS) (b101 : LE) (b102 : LC) (x4 : Tally × Int) (k5 : Int -> Option (Bool)) : Lp (LB × LS × LE × LC) (Nat × Nat) (Bool) := lpm ⟨[5], [405, 102090500, 102000101000100, 102000101000101, 102000101000102, 102000101000104, 102000101000106, 102000101000107090520, 102000101000107000801000100, 102000101000107000801000101, 102000101000107000801000102, 102000101000107000801000104, 102000101000107000801000106], [(.cell 102000101000107000801000106 1, 102000101000107090520, 9, 1)], []⟩ (λ (b106_1', b100', b101', b102') => f10_i500_c18 b106_1 b100 b101 b102 x4 k5 b106_1' b100' b101' b102') (λ (_, _, _, _) (_, _) => [.ptr 102000101000107000801000106 0]) (λ (b106_1', b100', b101', b102') (m0, m1) => [.box [.dat (iN x4.1.Paper), .dat (iN x4.1.Delivered), .dat (iN x4.1.Spoilt), .dat (iN x4.1.Lost), .dat (iN x4.1.Rest)], .row 9 1 (List.map strN b106_1), .fam [102000101000101] (encF strN StoneM.m b100) [], .fam [] (encF strN EditionM.m b101) [], .mp (encM strN bN b102), .box [.mp 102000101000100, .mp 102000101000101, .mp 102000101000102], .box [.ptr 102000101000104 0, .rs 102090500 m0], .row 9 1 (List.map strN (b106_1')), .fam [102000101000107000801000101] (encF strN StoneM.m (b100')) [], .fam [] (encF strN EditionM.m (b101')) [], .mp (encM strN bN (b102')), .box [.mp 102000101000107000801000100, .mp 102000101000107000801000101, .mp 102000101000107000801000102], .box [.ptr 102000101000107000801000104 0, .rs 102000101000107090520 m1]]) λ (b106_1', _, _, _) => (List.length b106_1, List.length (b106_1'))
instance Ef10_i500_c18 {b106_1 b100 b101 b102 x4 k5 b106_1' b100' b101' b102'} : IsLp 2 4 (f10_i500_c18 b106_1 b100 b101 b102 x4 k5 b106_1' b100' b101' b102') (Lf10_i500_c18 b106_1 b100 b101 b102 x4 k5) (b106_1', b100', b101', b102') := ⟨rfl⟩
instance Cf10_i500_c18 {b106_1 b100 b101 b102 x4 k5} : IsCut 4 (f10_i500_c18 b106_1 b100 b101 b102 x4 k5) (Lf10_i500_c18 b106_1 b100 b101 b102 x4 k5) 102000101000107000000018 := ⟨⟩
def f10_i500_c13 (N : Nat) (b106_1 : LB) (b100 : LS) (b101 : LE) (b102 : LC) (x4 : Tally × Int) (k5 : Int -> Option (Bool)) (x33 : LB) (v34 : Int) (b106_1' : LB) (b100' : LS) (b101' : LE) (b102' : LC) (r10 : Int -> LB -> LS -> LE -> LC -> Option (Bool)) (line8 : ByteArray) (e9 : Int) : Option (Bool) :=
 bif decide (e9 = (0 : Int)) then ((f18 N line8 (b106_1') (b100') (b101') (b102')).bind λ x35 =>
 bif decide (¬ x35.1 = (0 : Int)) then (k5 x35.1)
 else (r10 (W (v34 + (1 : Int))) x35.2.2.2.2 x35.2.1 x35.2.2.1 x35.2.2.2.1))
 else (bif decide (¬ e9 = (0 : Int)) then (k5 e9)
 else (r10 (W (v34 + (1 : Int))) (b106_1') (b100') (b101') (b102')))
def Lf10_i500_c13 (N : Nat) (b106_1 : LB) (b100 : LS) (b101 : LE) (b102 : LC) (x4 : Tally × Int) (k5 : Int -> Option (Bool)) (x33 : LB) (v34 : Int) (b106_1' : LB) (b100' : LS) (b101' : LE) (b102' : LC) (r10 : Int -> LB -> LS -> LE -> LC -> Option (Bool)) : Lp (ByteArray × Int) (Nat × Nat) (Bool) := lpm ⟨[5, 8, 9, 32, 33, 34], [405, 102090500, 102000101000100, 102000101000101, 102000101000102, 102000101000104, 102000101000106, 102000101000107090520, 102000101000107000801000100, 102000101000107000801000101, 102000101000107000801000102, 102000101000107000801000104, 102000101000107000801000106], [], []⟩ (λ (line8, e9) => f10_i500_c13 N b106_1 b100 b101 b102 x4 k5 x33 v34 b106_1' b100' b101' b102' r10 line8 e9) (λ (line8, e9) (_, _) => [.ptr 102000101000107000801000106 0, .dat (strN line8), .dat (iN e9), .dat (sl_strN x33), .dat (iN (List.length x33 : Int)), .dat (iN v34)]) (λ (_, _) (m0, m1) => [.box [.dat (iN x4.1.Paper), .dat (iN x4.1.Delivered), .dat (iN x4.1.Spoilt), .dat (iN x4.1.Lost), .dat (iN x4.1.Rest)], .row 9 1 (List.map strN b106_1), .fam [102000101000101] (encF strN StoneM.m b100) [], .fam [] (encF strN EditionM.m b101) [], .mp (encM strN bN b102), .box [.mp 102000101000100, .mp 102000101000101, .mp 102000101000102], .box [.ptr 102000101000104 0, .rs 102090500 m0], .row 9 1 (List.map strN (b106_1')), .fam [102000101000107000801000101] (encF strN StoneM.m (b100')) [], .fam [] (encF strN EditionM.m (b101')) [], .mp (encM strN bN (b102')), .box [.mp 102000101000107000801000100, .mp 102000101000107000801000101, .mp 102000101000107000801000102], .box [.ptr 102000101000107000801000104 0, .rs 102000101000107090520 m1]]) λ (_, _) => (List.length b106_1, List.length (b106_1'))
instance Ef10_i500_c13 {N b106_1 b100 b101 b102 x4 k5 x33 v34 b106_1' b100' b101' b102' r10 line8 e9} : IsLp 2 2 (f10_i500_c13 N b106_1 b100 b101 b102 x4 k5 x33 v34 b106_1' b100' b101' b102' r10 line8 e9) (Lf10_i500_c13 N b106_1 b100 b101 b102 x4 k5 x33 v34 b106_1' b100' b101' b102' r10) (line8, e9) := ⟨rfl⟩
instance Cf10_i500_c13 {N b106_1 b100 b101 b102 x4 k5 x33 v34 b106_1' b100' b101' b102' r10} : IsCut 2 (f10_i500_c13 N b106_1 b100 b101 b102 x4 k5 x33 v34 b106_1' b100' b101' b102' r10) (Lf10_i500_c13 N b106_1 b100 b101 b102 x4 k5 x33 v34 b106_1' b100' b101' b102' r10) 102000101000107000000013 := ⟨⟩
def f10_i500_10b (r10 : Int -> LB -> LS -> LE -> LC -> Option (Bool)) (N : Nat) (b106_1 : LB) (b100 : LS) (b101 : LE) (b102 : LC) (x4 : Tally × Int) (k5 : Int -> Option (Bool)) (k6 : LB -> LS -> LE -> LC -> Option (Bool)) (x33 : LB) (v34 : Int) (b106_1' : LB) (b100' : LS) (b101' : LE) (b102' : LC) : Option (Bool) :=
 bif decide (v34 < (List.length x33 : Int)) then ((ix x33 v34).bind λ x34 =>
 joinK (f10_i500_c13 N b106_1 b100 b101 b102 x4 k5 x33 v34 b106_1' b100' b101' b102' r10) λ k7 =>
 (f75 N x34).bind λ x36 =>
 k7 x36.1 x36.2)
 else (k6 (b106_1') (b100') (b101') (b102'))
def f10_i500_10 (N : Nat) (b106_1 : LB) (b100 : LS) (b101 : LE) (b102 : LC) (x4 : Tally × Int) (k5 : Int -> Option (Bool)) (k6 : LB -> LS -> LE -> LC -> Option (Bool)) (x33 : LB) : Nat -> Int -> LB -> LS -> LE -> LC -> Option (Bool)
 | 0, _, _, _, _, _ => none
 | n + 1, v34, b106_1', b100', b101', b102' => f10_i500_10b (f10_i500_10 N b106_1 b100 b101 b102 x4 k5 k6 x33 n) N b106_1 b100 b101 b102 x4 k5 k6 x33 v34 b106_1' b100' b101' b102'
def Lf10_i500_10 (N : Nat) (b106_1 : LB) (b100 : LS) (b101 : LE) (b102 : LC) (x4 : Tally × Int) (k5 : Int -> Option (Bool)) (k6 : LB -> LS -> LE -> LC -> Option (Bool)) (x33 : LB) : Lp (Nat × Int × LB × LS × LE × LC) (Nat × Nat) (Bool) := lpm ⟨[5, 32, 33, 34], [405, 102090500, 102000101000100, 102000101000101, 102000101000102, 102000101000104, 102000101000106, 102000101000107090520, 102000101000107000801000100, 102000101000107000801000101, 102000101000107000801000102, 102000101000107000801000104, 102000101000107000801000106], [(.cell 102000101000107000801000106 1, 102000101000107090520, 9, 1)], []⟩ (λ (n, v34, b106_1', b100', b101', b102') => f10_i500_10 N b106_1 b100 b101 b102 x4 k5 k6 x33 n v34 b106_1' b100' b101' b102') (λ (_, v34, _, _, _, _) (_, _) => [.ptr 102000101000107000801000106 0, .dat (sl_strN x33), .dat (iN (List.length x33 : Int)), .dat (iN v34)]) (λ (_, _, b106_1', b100', b101', b102') (m0, m1) => [.box [.dat (iN x4.1.Paper), .dat (iN x4.1.Delivered), .dat (iN x4.1.Spoilt), .dat (iN x4.1.Lost), .dat (iN x4.1.Rest)], .row 9 1 (List.map strN b106_1), .fam [102000101000101] (encF strN StoneM.m b100) [], .fam [] (encF strN EditionM.m b101) [], .mp (encM strN bN b102), .box [.mp 102000101000100, .mp 102000101000101, .mp 102000101000102], .box [.ptr 102000101000104 0, .rs 102090500 m0], .row 9 1 (List.map strN (b106_1')), .fam [102000101000107000801000101] (encF strN StoneM.m (b100')) [], .fam [] (encF strN EditionM.m (b101')) [], .mp (encM strN bN (b102')), .box [.mp 102000101000107000801000100, .mp 102000101000107000801000101, .mp 102000101000107000801000102], .box [.ptr 102000101000107000801000104 0, .rs 102000101000107090520 m1]]) λ (_, _, b106_1', _, _, _) => (List.length b106_1, List.length (b106_1'))
instance Ef10_i500_10 {N b106_1 b100 b101 b102 x4 k5 k6 x33 n v34 b106_1' b100' b101' b102'} : IsLp 2 5 (f10_i500_10 N b106_1 b100 b101 b102 x4 k5 k6 x33 n v34 b106_1' b100' b101' b102') (Lf10_i500_10 N b106_1 b100 b101 b102 x4 k5 k6 x33) (n, v34, b106_1', b100', b101', b102') := ⟨rfl⟩
def f10_i101_c7 (N : Nat) (b106_1 : LB) (b100 : LS) (b101 : LE) (b102 : LC) : Option (Bool) :=
 (f32 N (strC [97]) b106_1 b100 b101 b102).bind λ x2 =>
 (f36 N (strC [98, 111, 98]) (strC [109, 97, 112]) b106_1 b100 b101 b102).bind λ x3 =>
 (f34 N (strC [111, 100, 101]) b106_1 b100 b101 b102).bind λ x4 =>
 joinK (f10_c6 N b106_1 b100 b101 b102 x2 x3 x4) λ k5 =>
 (f72 N (strC [116, 117, 115, 99, 104, 101, 32, 49, 10, 101, 100, 105, 116, 105, 111, 110, 32, 97, 32, 52, 49, 55, 48, 55, 10]) (strC [10])).bind λ x27 =>
 bif !x27 then (k5 (18 : Int))
 else ((f74 N (strC [116, 117, 115, 99, 104, 101, 32, 49, 10, 101, 100, 105, 116, 105, 111, 110, 32, 97, 32, 52, 49, 55, 48, 55, 10]) (strC [10])).bind λ x28 =>
 (f73 N x28 (strC [10])).bind λ x29 =>
 (ix x29 (0 : Int)).bind λ x30 =>
 (f30 N (W ((List.length x29 : Int) - (1 : Int)))).bind λ x31 =>
 (addS (strC [116, 117, 115, 99, 104, 101, 32]) x31).bind λ x32 =>
 bif decide (¬ x30 = x32) then (k5 (9 : Int))
 else (joinK (f10_i500_c18 b106_1 b100 b101 b102 x4 k5) λ k6 =>
 (sub x29 (1 : Int) (List.length x29 : Int)).bind λ x33 =>
 f10_i500_10 N b106_1 b100 b101 b102 x4 k5 k6 x33 N (0 : Int) [] [] [] []))
def Lf10_i101_c7 (N : Nat) : Lp (LB × LS × LE × LC) (Nat × Unit) (Bool) := lpm ⟨[3], [102090500, 102000101000100, 102000101000101, 102000101000102, 102000101000104, 102000101000106], [(.cell 102000101000106 1, 102090500, 9, 1)], []⟩ (λ (b106_1, b100, b101, b102) => f10_i101_c7 N b106_1 b100 b101 b102) (λ (_, _, _, _) (_, _) => [.ptr 102000101000106 0]) (λ (b106_1, b100, b101, b102) (m0, _) => [.row 9 1 (List.map strN b106_1), .fam [102000101000101] (encF strN StoneM.m b100) [], .fam [] (encF strN EditionM.m b101) [], .mp (encM strN bN b102), .box [.mp 102000101000100, .mp 102000101000101, .mp 102000101000102], .box [.ptr 102000101000104 0, .rs 102090500 m0]]) λ (b106_1, _, _, _) => (List.length b106_1, ())
instance Ef10_i101_c7 {N b106_1 b100 b101 b102} : IsLp 1 4 (f10_i101_c7 N b106_1 b100 b101 b102) (Lf10_i101_c7 N) (b106_1, b100, b101, b102) := ⟨rfl⟩
instance Cf10_i101_c7 {N} : IsCut 4 (f10_i101_c7 N) (Lf10_i101_c7 N) 102000000007 := ⟨⟩
def f10_i101_c5 (N : Nat) (x1 : LB) (v9 : Int) (b106_1 : LB) (b100 : LS) (b101 : LE) (b102 : LC) (r3 : Int -> LB -> LS -> LE -> LC -> Option (Bool)) (x5 : ByteArray) : Option (Bool) :=
 (f18 N x5 b106_1 b100 b101 b102).bind λ x37 =>
 r3 (W (v9 + (1 : Int))) x37.2.2.2.2 x37.2.1 x37.2.2.1 x37.2.2.2.1
def Lf10_i101_c5 (N : Nat) (x1 : LB) (v9 : Int) (b106_1 : LB) (b100 : LS) (b101 : LE) (b102 : LC) (r3 : Int -> LB -> LS -> LE -> LC -> Option (Bool)) : Lp (ByteArray) (Nat × Unit) (Bool) := lpm ⟨[3, 5, 7, 8, 9], [102090500, 102000101000100, 102000101000101, 102000101000102, 102000101000104, 102000101000106], [], []⟩ (λ x5 => f10_i101_c5 N x1 v9 b106_1 b100 b101 b102 r3 x5) (λ x5 (_, _) => [.ptr 102000101000106 0, .dat (strN x5), .dat (sl_strN x1), .dat (iN (List.length x1 : Int)), .dat (iN v9)]) (λ _ (m0, _) => [.row 9 1 (List.map strN b106_1), .fam [102000101000101] (encF strN StoneM.m b100) [], .fam [] (encF strN EditionM.m b101) [], .mp (encM strN bN b102), .box [.mp 102000101000100, .mp 102000101000101, .mp 102000101000102], .box [.ptr 102000101000104 0, .rs 102090500 m0]]) λ _ => (List.length b106_1, ())
instance Ef10_i101_c5 {N x1 v9 b106_1 b100 b101 b102 r3 x5} : IsLp 1 1 (f10_i101_c5 N x1 v9 b106_1 b100 b101 b102 r3 x5) (Lf10_i101_c5 N x1 v9 b106_1 b100 b101 b102 r3) x5 := ⟨rfl⟩
instance Cf10_i101_c5 {N x1 v9 b106_1 b100 b101 b102 r3} : IsCut 1 (f10_i101_c5 N x1 v9 b106_1 b100 b101 b102 r3) (Lf10_i101_c5 N x1 v9 b106_1 b100 b101 b102 r3) 102000000005 := ⟨⟩
def f10_i101_3b (r3 : Int -> LB -> LS -> LE -> LC -> Option (Bool)) (N : Nat) (x1 : LB) (k8 : LB -> LS -> LE -> LC -> Option (Bool)) (v9 : Int) (b106_1 : LB) (b100 : LS) (b101 : LE) (b102 : LC) : Option (Bool) :=
 bif decide (v9 < (List.length x1 : Int)) then (joinK (f10_i101_c5 N x1 v9 b106_1 b100 b101 b102 r3) λ k9 =>
 (ix x1 v9).bind λ x38 =>
 k9 x38)
 else (k8 b106_1 b100 b101 b102)
def f10_i101_3 (N : Nat) (x1 : LB) (k8 : LB -> LS -> LE -> LC -> Option (Bool)) : Nat -> Int -> LB -> LS -> LE -> LC -> Option (Bool)
 | 0, _, _, _, _, _ => none
 | n + 1, v9, b106_1, b100, b101, b102 => f10_i101_3b (f10_i101_3 N x1 k8 n) N x1 k8 v9 b106_1 b100 b101 b102
def Lf10_i101_3 (N : Nat) (x1 : LB) (k8 : LB -> LS -> LE -> LC -> Option (Bool)) : Lp (Nat × Int × LB × LS × LE × LC) (Nat × Unit) (Bool) := lpm ⟨[3, 7, 8, 9], [102090500, 102000101000100, 102000101000101, 102000101000102, 102000101000104, 102000101000106], [(.cell 102000101000106 1, 102090500, 9, 1)], []⟩ (λ (n, v9, b106_1, b100, b101, b102) => f10_i101_3 N x1 k8 n v9 b106_1 b100 b101 b102) (λ (_, v9, _, _, _, _) (_, _) => [.ptr 102000101000106 0, .dat (sl_strN x1), .dat (iN (List.length x1 : Int)), .dat (iN v9)]) (λ (_, _, b106_1, b100, b101, b102) (m0, _) => [.row 9 1 (List.map strN b106_1), .fam [102000101000101] (encF strN StoneM.m b100) [], .fam [] (encF strN EditionM.m b101) [], .mp (encM strN bN b102), .box [.mp 102000101000100, .mp 102000101000101, .mp 102000101000102], .box [.ptr 102000101000104 0, .rs 102090500 m0]]) λ (_, _, b106_1, _, _, _) => (List.length b106_1, ())
instance Ef10_i101_3 {N x1 k8 n v9 b106_1 b100 b101 b102} : IsLp 1 5 (f10_i101_3 N x1 k8 n v9 b106_1 b100 b101 b102) (Lf10_i101_3 N x1 k8) (n, v9, b106_1, b100, b101, b102) := ⟨rfl⟩
def f10 (N : Nat) : Option (Bool) :=
 (f44 N ).bind λ x1 =>
 joinK (f10_i101_c7 N) λ k8 =>
 f10_i101_3 N x1 k8 N (0 : Int) [] [] [] []
def G10 (ds : List D) (d : D) : Prop := ∃ (N : Nat) (r : Bool), ds = [] /\ f10 N  = some r /\ d = bN r

end Go.Vc
namespace Go.Vc
open Go.Proofs
abbrev A105 : Prop := PureOK Tryz.prog 105 G105
abbrev A88 : Prop := PureOK Tryz.prog 88 G88
abbrev A108 : Prop := PureOK Tryz.prog 108 G108
abbrev A198 : Prop := CallOK Tryz.prog 198 (effPg Spf198 G198)
abbrev A200 : Prop := CallOK Tryz.prog 200 (effPg Spf200 G200)
abbrev A202 : Prop := CallOK Tryz.prog 202 (effPg Spf202 G202)
abbrev A204 : Prop := CallOK Tryz.prog 204 (effPg Spf204 G204)
abbrev A206 : Prop := CallOK Tryz.prog 206 (effPg Spf206 G206)
abbrev A208 : Prop := CallOK Tryz.prog 208 (effPg Spf208 G208)
abbrev A64 : Prop := PureOK Tryz.prog 64 G64
abbrev A213 : Prop := CallOK Tryz.prog 213 (effPg Spf213 G213)
abbrev A197 : Prop := CallOK Tryz.prog 197 (effPg Spf197 G197)
abbrev A199 : Prop := CallOK Tryz.prog 199 (effPg Spf199 G199)
abbrev A201 : Prop := CallOK Tryz.prog 201 (effPg Spf201 G201)
abbrev A203 : Prop := CallOK Tryz.prog 203 (effPg Spf203 G203)
abbrev A205 : Prop := CallOK Tryz.prog 205 (effPg Spf205 G205)
abbrev A207 : Prop := CallOK Tryz.prog 207 (effPg Spf207 G207)
abbrev A209 : Prop := CallOK Tryz.prog 209 (effPg Spf209 G209)
abbrev A214 : Prop := CallOK Tryz.prog 214 (effPg Spf214 G214)
abbrev A117 : Prop := PureOK Tryz.prog 117 G117
abbrev A143 : Prop := PureOK Tryz.prog 143 G143
abbrev A145 : Prop := PureOK Tryz.prog 145 G145
abbrev A132 : Prop := PureOK Tryz.prog 132 G132
abbrev A147 : Prop := PureOK Tryz.prog 147 G147
abbrev A148 : Prop := PureOK Tryz.prog 148 G148
abbrev A35 : Prop := PureOK Tryz.prog 35 G35
abbrev A44 : Prop := PureOK Tryz.prog 44 G44
abbrev A21 : Prop := CallOK Tryz.prog 21 (effPg Spf21 G21)
abbrev A104 : Prop := PureOK Tryz.prog 104 G104
abbrev A61 : Prop := PureOK Tryz.prog 61 G61
abbrev A210 : Prop := CallOK Tryz.prog 210 (effPg Spf210 G210)
abbrev A212 : Prop := CallOK Tryz.prog 212 (effPg Spf212 G212)
set_option maxRecDepth 20000 in
set_option maxHeartbeats 400000000 in
theorem Wall0 : (A105) /\ (A88) /\ (A108) /\ (∀ N : Nat, CallOK Tryz.prog 198 (effPg Spf198 (H198 N))) /\ (∀ N : Nat, CallOK Tryz.prog 200 (effPg Spf200 (H200 N))) /\ (∀ N : Nat, CallOK Tryz.prog 202 (effPg Spf202 (H202 N))) /\ (∀ N : Nat, CallOK Tryz.prog 204 (effPg Spf204 (H204 N))) /\ (∀ N : Nat, CallOK Tryz.prog 206 (effPg Spf206 (H206 N))) /\ (∀ N : Nat, CallOK Tryz.prog 208 (effPg Spf208 (H208 N))) /\ (A64) /\ (A213) /\ (∀ N : Nat, CallOK Tryz.prog 197 (effPg Spf197 (H197 N))) /\ (∀ N : Nat, CallOK Tryz.prog 199 (effPg Spf199 (H199 N))) /\ (∀ N : Nat, CallOK Tryz.prog 201 (effPg Spf201 (H201 N))) /\ (∀ N : Nat, CallOK Tryz.prog 203 (effPg Spf203 (H203 N))) /\ (∀ N : Nat, CallOK Tryz.prog 205 (effPg Spf205 (H205 N))) /\ (∀ N : Nat, CallOK Tryz.prog 207 (effPg Spf207 (H207 N))) /\ (∀ N : Nat, CallOK Tryz.prog 209 (effPg Spf209 (H209 N))) /\ (∀ N : Nat, CallOK Tryz.prog 214 (effPg Spf214 (H214 N))) /\ (A117) /\ (A143) /\ (A145) /\ (A132) /\ (A147) /\ (A148) /\ (A35) /\ (A44) /\ (∀ N : Nat, CallOK Tryz.prog 21 (effPg Spf21 (H21 N))) /\ (A104) /\ (A88 -> A61) /\ (A64 -> (∀ N : Nat, CallOK Tryz.prog 210 (effPg Spf210 (H210 N)))) /\ (A213 -> (∀ N : Nat, CallOK Tryz.prog 212 (effPg Spf212 (H212 N)))) := by
 refine ⟨?g0, ?g1, ?g2, ?g3, ?g4, ?g5, ?g6, ?g7, ?g8, ?g9, ?g10, ?g11, ?g12, ?g13, ?g14, ?g15, ?g16, ?g17, ?g18, ?g19, ?g20, ?g21, ?g22, ?g23, ?g24, ?g25, ?g26, ?g27, ?g28, ?g29, ?g30, ?g31⟩
 case' g0 =>
  refine pure_of_vc (c := mkCtx tyTree []) rfl tyOK (ctx_nil) [[0], [0]] 1 Tryz.func105 rfl rfl (by decide) (by kernel_rfl) ?_
  rintro ds d ⟨N, a0, r, rfl, hF, rfl⟩ hok
  clear hok
  refine ⟨rfl, ?_⟩
  show vc _ _ _ _ ⟨[(0, .dat (strN a0))], []⟩ _
  unfold f105 at hF
 case' g1 =>
  refine pure_of_vc (c := mkCtx tyTree []) rfl tyOK (ctx_nil) [[0]] 1 Tryz.func88 rfl rfl (by decide) (by kernel_rfl) ?_
  rintro ds d ⟨N, a0, r, rfl, hF, rfl⟩ hok
  clear hok
  refine ⟨rfl, ?_⟩
  show vc _ _ _ _ ⟨[(0, .dat (strN a0))], []⟩ _
  unfold f88 at hF
 case' g2 =>
  refine pure_of_vc (c := mkCtx tyTree []) rfl tyOK (ctx_nil) [[0]] 2 Tryz.func108 rfl rfl (by decide) (by kernel_rfl) ?_
  rintro ds d ⟨N, a0, a1, r, rfl, hF, rfl⟩ hok
  clear hok
  refine ⟨rfl, ?_⟩
  show vc _ _ _ _ ⟨[(0, .dat (sl_strN a0)), (1, .dat (A2iN.d a1))], []⟩ _
  unfold f108 at hF
 case' g3 =>
  intro N
  refine Nat.rec (motive := λ N => CallOK Tryz.prog 198 (effPg Spf198 (H198 N))) ?_ (λ N ih => ?_) N
  .exact eff_none λ x y h => (by cases (show (none : Option (Int)) = some y from h))
  refine eff_of_vc (c := mkCtx tyTree [(198, true, effPg Spf198 (H198 N))]) rfl tyOK (ctx_effL (callable Tryz.func198 rfl rfl) ih (ctx_nil)) 1000 Srf198 Sr0f198 Tryz.func198 rfl rfl (by kernel_rfl) rfl rfl rfl rfl rfl rfl rfl rfl (λ _ => rfl) (λ _ => rfl) (λ _ _ => ⟨rfl, rfl⟩) ?_
  rintro ⟨s0, s1, s2, s3⟩ y hF
  have hF : f198b (f198 N) N s0 s1 s2 s3 = some y := hF
  show vc _ _ _ _ ⟨[(0, .dat (.agg [strN s0.name, iN s0.thick])), (1, .ptr 0 0)], [(0, .box [.mp 1, .mp 2, .mp 3]), (1, .fam [2] (encF strN StoneM.m s1) []), (2, .fam [] (encF strN EditionM.m s2) []), (3, .mp (encM strN bN s3))]⟩ _
  unfold f198b at hF
 case' g4 =>
  intro N
  refine Nat.rec (motive := λ N => CallOK Tryz.prog 200 (effPg Spf200 (H200 N))) ?_ (λ N ih => ?_) N
  .exact eff_none λ x y h => (by cases (show (none : Option (Int)) = some y from h))
  refine eff_of_vc (c := mkCtx tyTree [(200, true, effPg Spf200 (H200 N))]) rfl tyOK (ctx_effL (callable Tryz.func200 rfl rfl) ih (ctx_nil)) 1000 Srf200 Sr0f200 Tryz.func200 rfl rfl (by kernel_rfl) rfl rfl rfl rfl rfl rfl rfl rfl (λ _ => rfl) (λ _ => rfl) (λ _ _ => ⟨rfl, rfl⟩) ?_
  rintro ⟨s0, s1, s2, s3⟩ y hF
  have hF : f200b (f200 N) N s0 s1 s2 s3 = some y := hF
  show vc _ _ _ _ ⟨[(0, .dat (.agg [strN s0.name])), (1, .ptr 0 0)], [(0, .box [.mp 1, .mp 2, .mp 3]), (1, .fam [2] (encF strN StoneM.m s1) []), (2, .fam [] (encF strN EditionM.m s2) []), (3, .mp (encM strN bN s3))]⟩ _
  unfold f200b at hF
 case' g5 =>
  intro N
  refine Nat.rec (motive := λ N => CallOK Tryz.prog 202 (effPg Spf202 (H202 N))) ?_ (λ N ih => ?_) N
  .exact eff_none λ x y h => (by cases (show (none : Option (Int)) = some y from h))
  refine eff_of_vc (c := mkCtx tyTree [(202, true, effPg Spf202 (H202 N))]) rfl tyOK (ctx_effL (callable Tryz.func202 rfl rfl) ih (ctx_nil)) 1000 Srf202 Sr0f202 Tryz.func202 rfl rfl (by kernel_rfl) rfl rfl rfl rfl rfl rfl rfl rfl (λ _ => rfl) (λ _ => rfl) (λ _ _ => ⟨rfl, rfl⟩) ?_
  rintro ⟨s0, s1, s2, s3⟩ y hF
  have hF : f202b (f202 N) N s0 s1 s2 s3 = some y := hF
  show vc _ _ _ _ ⟨[(0, .dat (.agg [strN s0.stone, strN s0.edition])), (1, .ptr 0 0)], [(0, .box [.mp 1, .mp 2, .mp 3]), (1, .fam [2] (encF strN StoneM.m s1) []), (2, .fam [] (encF strN EditionM.m s2) []), (3, .mp (encM strN bN s3))]⟩ _
  unfold f202b at hF
 case' g6 =>
  intro N
  refine Nat.rec (motive := λ N => CallOK Tryz.prog 204 (effPg Spf204 (H204 N))) ?_ (λ N ih => ?_) N
  .exact eff_none λ x y h => (by cases (show (none : Option (Int)) = some y from h))
  refine eff_of_vc (c := mkCtx tyTree [(204, true, effPg Spf204 (H204 N))]) rfl tyOK (ctx_effL (callable Tryz.func204 rfl rfl) ih (ctx_nil)) 1000 Srf204 Sr0f204 Tryz.func204 rfl rfl (by kernel_rfl) rfl rfl rfl rfl rfl rfl rfl rfl (λ _ => rfl) (λ _ => rfl) (λ _ _ => ⟨rfl, rfl⟩) ?_
  rintro ⟨s0, s1, s2, s3⟩ y hF
  have hF : f204b (f204 N) N s0 s1 s2 s3 = some y := hF
  show vc _ _ _ _ ⟨[(0, .dat (.agg [strN s0.edition, iN s0.n])), (1, .ptr 0 0)], [(0, .box [.mp 1, .mp 2, .mp 3]), (1, .fam [2] (encF strN StoneM.m s1) []), (2, .fam [] (encF strN EditionM.m s2) []), (3, .mp (encM strN bN s3))]⟩ _
  unfold f204b at hF
 case' g7 =>
  intro N
  refine Nat.rec (motive := λ N => CallOK Tryz.prog 206 (effPg Spf206 (H206 N))) ?_ (λ N ih => ?_) N
  .exact eff_none λ x y h => (by cases (show (none : Option (Int)) = some y from h))
  refine eff_of_vc (c := mkCtx tyTree [(206, true, effPg Spf206 (H206 N))]) rfl tyOK (ctx_effL (callable Tryz.func206 rfl rfl) ih (ctx_nil)) 1000 Srf206 Sr0f206 Tryz.func206 rfl rfl (by kernel_rfl) rfl rfl rfl rfl rfl rfl rfl rfl (λ _ => rfl) (λ _ => rfl) (λ _ _ => ⟨rfl, rfl⟩) ?_
  rintro ⟨s0, s1, s2, s3⟩ y hF
  have hF : f206b (f206 N) N s0 s1 s2 s3 = some y := hF
  show vc _ _ _ _ ⟨[(0, .dat (.agg [strN s0.stone, iN s0.good, iN s0.spoilt])), (1, .ptr 0 0)], [(0, .box [.mp 1, .mp 2, .mp 3]), (1, .fam [2] (encF strN StoneM.m s1) []), (2, .fam [] (encF strN EditionM.m s2) []), (3, .mp (encM strN bN s3))]⟩ _
  unfold f206b at hF
 case' g8 =>
  intro N
  refine Nat.rec (motive := λ N => CallOK Tryz.prog 208 (effPg Spf208 (H208 N))) ?_ (λ N ih => ?_) N
  .exact eff_none λ x y h => (by cases (show (none : Option (Int)) = some y from h))
  refine eff_of_vc (c := mkCtx tyTree [(208, true, effPg Spf208 (H208 N))]) rfl tyOK (ctx_effL (callable Tryz.func208 rfl rfl) ih (ctx_nil)) 1000 Srf208 Sr0f208 Tryz.func208 rfl rfl (by kernel_rfl) rfl rfl rfl rfl rfl rfl rfl rfl (λ _ => rfl) (λ _ => rfl) (λ _ _ => ⟨rfl, rfl⟩) ?_
  rintro ⟨s0, s1, s2, s3⟩ y hF
  have hF : f208b (f208 N) N s0 s1 s2 s3 = some y := hF
  show vc _ _ _ _ ⟨[(0, .dat (.agg [strN s0.edition])), (1, .ptr 0 0)], [(0, .box [.mp 1, .mp 2, .mp 3]), (1, .fam [2] (encF strN StoneM.m s1) []), (2, .fam [] (encF strN EditionM.m s2) []), (3, .mp (encM strN bN s3))]⟩ _
  unfold f208b at hF
 case' g9 =>
  refine pure_of_vc (c := mkCtx tyTree []) rfl tyOK (ctx_nil) [[0]] 2 Tryz.func64 rfl rfl (by decide) (by kernel_rfl) ?_
  rintro ds d ⟨N, a0, a1, r, rfl, hF, rfl⟩ hok
  clear hok
  refine ⟨rfl, ?_⟩
  show vc _ _ _ _ ⟨[(0, .ep [strN a0.name, bN a0.closed, sl_iN a0.places, iN a0.from_, iN a0.paper, iN a0.delivered, iN a0.spoilt]), (1, .dat (iN a1))], []⟩ _
  unfold f64 at hF
 case' g10 =>
  refine eff_of_vc (c := mkCtx tyTree []) rfl tyOK (ctx_nil) 1000 ⟨[0], [0, 1], [], []⟩ ⟨[0], [0, 1], [], []⟩ Tryz.func213 rfl rfl (by kernel_rfl) rfl rfl rfl rfl rfl rfl rfl rfl (λ _ => rfl) (λ _ => rfl) (λ _ _ => ⟨rfl, rfl⟩) ?_
  rintro ⟨i, es, x⟩ y ⟨hx, h1, h2⟩
  replace h1 : 0 <= lastI x := h1
  replace h2 : lastI x < x.places.length := h2
  unfold lastI lastL W at h1 h2
  replace hx : getF es i = some x := hx
  show vc _ _ _ _ ⟨[(0, .po 0 i 0)], [(0, .fam [] (encF strN EditionM.m es) [(i, 2, 1)]), (1, .row 3 1 (List.map iN x.places))]⟩ _
 case' g11 =>
  intro N
  refine Nat.rec (motive := λ N => CallOK Tryz.prog 197 (effPg Spf197 (H197 N))) ?_ (λ N ih => ?_) N
  .exact eff_none λ x y h => (by cases (show (none : Option (LS)) = some y from h))
  refine eff_of_vc (c := mkCtx tyTree [(197, true, effPg Spf197 (H197 N))]) rfl tyOK (ctx_effL (callable Tryz.func197 rfl rfl) ih (ctx_nil)) 1000 Srf197 Sr0f197 Tryz.func197 rfl rfl (by kernel_rfl) rfl rfl rfl rfl rfl rfl rfl rfl (λ _ => rfl) (λ _ => rfl) (λ _ _ => ⟨rfl, rfl⟩) ?_
  rintro ⟨s0, s1, s2, s3⟩ y hF
  have hF : f197b (f197 N) N s0 s1 s2 s3 = some y := hF
  show vc _ _ _ _ ⟨[(0, .dat (.agg [strN s0.name, iN s0.thick])), (1, .ptr 0 0)], [(0, .box [.mp 1, .mp 2, .mp 3]), (1, .fam [2] (encF strN StoneM.m s1) []), (2, .fam [] (encF strN EditionM.m s2) []), (3, .mp (encM strN bN s3))]⟩ _
  unfold f197b at hF
 case' g12 =>
  intro N
  refine Nat.rec (motive := λ N => CallOK Tryz.prog 199 (effPg Spf199 (H199 N))) ?_ (λ N ih => ?_) N
  .exact eff_none λ x y h => (by cases (show (none : Option (LE)) = some y from h))
  refine eff_of_vc (c := mkCtx tyTree [(199, true, effPg Spf199 (H199 N))]) rfl tyOK (ctx_effL (callable Tryz.func199 rfl rfl) ih (ctx_nil)) 1000 Srf199 Sr0f199 Tryz.func199 rfl rfl (by kernel_rfl) rfl rfl rfl rfl rfl rfl rfl rfl (λ _ => rfl) (λ _ => rfl) (λ _ _ => ⟨rfl, rfl⟩) ?_
  rintro ⟨s0, s1, s2, s3⟩ y hF
  have hF : f199b (f199 N) N s0 s1 s2 s3 = some y := hF
  show vc _ _ _ _ ⟨[(0, .dat (.agg [strN s0.name])), (1, .ptr 0 0)], [(0, .box [.mp 1, .mp 2, .mp 3]), (1, .fam [2] (encF strN StoneM.m s1) []), (2, .fam [] (encF strN EditionM.m s2) []), (3, .mp (encM strN bN s3))]⟩ _
  unfold f199b at hF
 case' g13 =>
  intro N
  refine Nat.rec (motive := λ N => CallOK Tryz.prog 201 (effPg Spf201 (H201 N))) ?_ (λ N ih => ?_) N
  .exact eff_none λ x y h => (by cases (show (none : Option (LS × LE)) = some y from h))
  refine eff_of_vc (c := mkCtx tyTree [(201, true, effPg Spf201 (H201 N))]) rfl tyOK (ctx_effL (callable Tryz.func201 rfl rfl) ih (ctx_nil)) 1000 Srf201 Sr0f201 Tryz.func201 rfl rfl (by kernel_rfl) rfl rfl rfl rfl rfl rfl rfl rfl (λ _ => rfl) (λ _ => rfl) (λ _ _ => ⟨rfl, rfl⟩) ?_
  rintro ⟨s0, s1, s2, s3⟩ y hF
  have hF : f201b (f201 N) N s0 s1 s2 s3 = some y := hF
  show vc _ _ _ _ ⟨[(0, .dat (.agg [strN s0.stone, strN s0.edition])), (1, .ptr 0 0)], [(0, .box [.mp 1, .mp 2, .mp 3]), (1, .fam [2] (encF strN StoneM.m s1) []), (2, .fam [] (encF strN EditionM.m s2) []), (3, .mp (encM strN bN s3))]⟩ _
  unfold f201b at hF
 case' g14 =>
  intro N
  refine Nat.rec (motive := λ N => CallOK Tryz.prog 203 (effPg Spf203 (H203 N))) ?_ (λ N ih => ?_) N
  .exact eff_none λ x y h => (by cases (show (none : Option (LE)) = some y from h))
  refine eff_of_vc (c := mkCtx tyTree [(203, true, effPg Spf203 (H203 N))]) rfl tyOK (ctx_effL (callable Tryz.func203 rfl rfl) ih (ctx_nil)) 1000 Srf203 Sr0f203 Tryz.func203 rfl rfl (by kernel_rfl) rfl rfl rfl rfl rfl rfl rfl rfl (λ _ => rfl) (λ _ => rfl) (λ _ _ => ⟨rfl, rfl⟩) ?_
  rintro ⟨s0, s1, s2, s3⟩ y hF
  have hF : f203b (f203 N) N s0 s1 s2 s3 = some y := hF
  show vc _ _ _ _ ⟨[(0, .dat (.agg [strN s0.edition, iN s0.n])), (1, .ptr 0 0)], [(0, .box [.mp 1, .mp 2, .mp 3]), (1, .fam [2] (encF strN StoneM.m s1) []), (2, .fam [] (encF strN EditionM.m s2) []), (3, .mp (encM strN bN s3))]⟩ _
  unfold f203b at hF
 case' g15 =>
  intro N
  refine Nat.rec (motive := λ N => CallOK Tryz.prog 205 (effPg Spf205 (H205 N))) ?_ (λ N ih => ?_) N
  .exact eff_none λ x y h => (by cases (show (none : Option (LE)) = some y from h))
  refine eff_of_vc (c := mkCtx tyTree [(205, true, effPg Spf205 (H205 N))]) rfl tyOK (ctx_effL (callable Tryz.func205 rfl rfl) ih (ctx_nil)) 1000 Srf205 Sr0f205 Tryz.func205 rfl rfl (by kernel_rfl) rfl rfl rfl rfl rfl rfl rfl rfl (λ _ => rfl) (λ _ => rfl) (λ _ _ => ⟨rfl, rfl⟩) ?_
  rintro ⟨s0, s1, s2, s3⟩ y hF
  have hF : f205b (f205 N) N s0 s1 s2 s3 = some y := hF
  show vc _ _ _ _ ⟨[(0, .dat (.agg [strN s0.stone, iN s0.good, iN s0.spoilt])), (1, .ptr 0 0)], [(0, .box [.mp 1, .mp 2, .mp 3]), (1, .fam [2] (encF strN StoneM.m s1) []), (2, .fam [] (encF strN EditionM.m s2) []), (3, .mp (encM strN bN s3))]⟩ _
  unfold f205b at hF
 case' g16 =>
  intro N
  refine Nat.rec (motive := λ N => CallOK Tryz.prog 207 (effPg Spf207 (H207 N))) ?_ (λ N ih => ?_) N
  .exact eff_none λ x y h => (by cases (show (none : Option (LE)) = some y from h))
  refine eff_of_vc (c := mkCtx tyTree [(207, true, effPg Spf207 (H207 N))]) rfl tyOK (ctx_effL (callable Tryz.func207 rfl rfl) ih (ctx_nil)) 1000 Srf207 Sr0f207 Tryz.func207 rfl rfl (by kernel_rfl) rfl rfl rfl rfl rfl rfl rfl rfl (λ _ => rfl) (λ _ => rfl) (λ _ _ => ⟨rfl, rfl⟩) ?_
  rintro ⟨s0, s1, s2, s3⟩ y hF
  have hF : f207b (f207 N) N s0 s1 s2 s3 = some y := hF
  show vc _ _ _ _ ⟨[(0, .dat (.agg [strN s0.edition])), (1, .ptr 0 0)], [(0, .box [.mp 1, .mp 2, .mp 3]), (1, .fam [2] (encF strN StoneM.m s1) []), (2, .fam [] (encF strN EditionM.m s2) []), (3, .mp (encM strN bN s3))]⟩ _
  unfold f207b at hF
 case' g17 =>
  intro N
  refine Nat.rec (motive := λ N => CallOK Tryz.prog 209 (effPg Spf209 (H209 N))) ?_ (λ N ih => ?_) N
  .exact eff_none λ x y h => (by cases (show (none : Option (LE × LC)) = some y from h))
  refine eff_of_vc (c := mkCtx tyTree [(209, true, effPg Spf209 (H209 N))]) rfl tyOK (ctx_effL (callable Tryz.func209 rfl rfl) ih (ctx_nil)) 1000 Srf209 Sr0f209 Tryz.func209 rfl rfl (by kernel_rfl) rfl rfl rfl rfl rfl rfl rfl rfl (λ _ => rfl) (λ _ => rfl) (λ _ _ => ⟨rfl, rfl⟩) ?_
  rintro ⟨s0, s1, s2, s3⟩ y hF
  have hF : f209b (f209 N) N s0 s1 s2 s3 = some y := hF
  show vc _ _ _ _ ⟨[(0, .dat (.agg [strN s0.customer, strN s0.edition, iN s0.n])), (1, .ptr 0 0)], [(0, .box [.mp 1, .mp 2, .mp 3]), (1, .fam [2] (encF strN StoneM.m s1) []), (2, .fam [] (encF strN EditionM.m s2) []), (3, .mp (encM strN bN s3))]⟩ _
  unfold f209b at hF
 case' g18 =>
  intro N
  refine Nat.rec (motive := λ N => CallOK Tryz.prog 214 (effPg Spf214 (H214 N))) ?_ (λ N ih => ?_) N
  .exact eff_none λ x y h => (by cases (show (none : Option (LS × LE)) = some y from h))
  refine eff_of_vc (c := mkCtx tyTree [(214, true, effPg Spf214 (H214 N))]) rfl tyOK (ctx_effL (callable Tryz.func214 rfl rfl) ih (ctx_nil)) 1000 Srf214 Sr0f214 Tryz.func214 rfl rfl (by kernel_rfl) rfl rfl rfl rfl rfl rfl rfl rfl (λ _ => rfl) (λ _ => rfl) (λ _ _ => ⟨rfl, rfl⟩) ?_
  rintro ⟨s0, s1, s2, s3⟩ y hF
  have hF : f214b (f214 N) N s0 s1 s2 s3 = some y := hF
  show vc _ _ _ _ ⟨[(0, .dat (.agg [strN s0.stone])), (1, .ptr 0 0)], [(0, .box [.mp 1, .mp 2, .mp 3]), (1, .fam [2] (encF strN StoneM.m s1) []), (2, .fam [] (encF strN EditionM.m s2) []), (3, .mp (encM strN bN s3))]⟩ _
  unfold f214b at hF
 case' g19 =>
  refine pure_of_vc (c := mkCtx tyTree []) rfl tyOK (ctx_nil) [[0]] 3 Tryz.func117 rfl rfl (by decide) (by kernel_rfl) ?_
  rintro ds d ⟨N, a0, a1, a2, r, rfl, hF, rfl⟩ hok
  clear hok
  refine ⟨rfl, ?_⟩
  show vc _ _ _ _ ⟨[(0, .dat (iN a0)), (1, .dat (iN a1)), (2, .dat (iN a2))], []⟩ _
  unfold f117 at hF
 case' g20 =>
  refine pure_of_vc (c := mkCtx tyTree [(166, false, inlPg (mkCtx tyTree []) Tryz.f166)]) rfl tyOK (ctx_eff (callable Tryz.func166 rfl rfl) (CallOK.inl rfl tyOK (ctx_nil) Tryz.func166 (by kernel_rfl)) (ctx_nil)) [[1]] 1 Tryz.func143 rfl rfl (by decide) (by kernel_rfl) ?_
  rintro ds d ⟨N, a0, r, rfl, hF, rfl⟩ hok
  clear hok
  refine ⟨rfl, ?_⟩
  show vc _ _ _ _ ⟨[(0, .dat (sl_sl_iN a0))], []⟩ _
  unfold f143 at hF
 case' g21 =>
  refine pure_of_vc (c := mkCtx tyTree []) rfl tyOK (ctx_nil) [[0]] 1 Tryz.func145 rfl rfl (by decide) (by kernel_rfl) ?_
  rintro ds d ⟨N, a0, r, rfl, hF, rfl⟩ hok
  clear hok
  refine ⟨rfl, ?_⟩
  show vc _ _ _ _ ⟨[(0, .dat (sl_sl_iN a0))], []⟩ _
  unfold f145 at hF
 case' g22 =>
  refine pure_of_vc (c := mkCtx tyTree [(159, false, inlPg (mkCtx tyTree [(160, false, inlPg (mkCtx tyTree []) Tryz.f160)]) Tryz.f159)]) rfl tyOK (ctx_eff (callable Tryz.func159 rfl rfl) (CallOK.inl rfl tyOK (ctx_eff (callable Tryz.func160 rfl rfl) (CallOK.inl rfl tyOK (ctx_nil) Tryz.func160 (by kernel_rfl)) (ctx_nil)) Tryz.func159 (by kernel_rfl)) (ctx_nil)) [[0]] 3 Tryz.func132 rfl rfl (by decide) (by kernel_rfl) ?_
  rintro ds d ⟨N, a0, a1, a2, r, rfl, hF, rfl⟩ hok
  clear hok
  refine ⟨rfl, ?_⟩
  show vc _ _ _ _ ⟨[(0, .dat (sl_sl_iN a0)), (1, .dat (iN a1)), (2, .dat (sl_iN a2))], []⟩ _
  unfold f132 at hF
 case' g23 =>
  refine pure_of_vc (c := mkCtx tyTree []) rfl tyOK (ctx_nil) [[0]] 2 Tryz.func147 rfl rfl (by decide) (by kernel_rfl) ?_
  rintro ds d ⟨N, a0, a1, r, rfl, hF, rfl⟩ hok
  clear hok
  refine ⟨rfl, ?_⟩
  show vc _ _ _ _ ⟨[(0, .dat (sl_iN a0)), (1, .dat (iN a1))], []⟩ _
  unfold f147 at hF
 case' g24 =>
  refine pure_of_vc (c := mkCtx tyTree []) rfl tyOK (ctx_nil) [[0]] 2 Tryz.func148 rfl rfl (by decide) (by kernel_rfl) ?_
  rintro ds d ⟨N, a0, a1, r, rfl, hF, rfl⟩ hok
  clear hok
  refine ⟨rfl, ?_⟩
  show vc _ _ _ _ ⟨[(0, .dat (iN a0)), (1, .dat (iN a1))], []⟩ _
  unfold f148 at hF
 case' g25 =>
  refine pure_of_vc (c := mkCtx tyTree []) rfl tyOK (ctx_nil) [[0]] 2 Tryz.func35 rfl rfl (by decide) (by kernel_rfl) ?_
  rintro ds d ⟨N, a0, a1, r, rfl, hF, rfl⟩ hok
  clear hok
  refine ⟨rfl, ?_⟩
  show vc _ _ _ _ ⟨[(0, .dat (sl_iN a0)), (1, .dat (sl_iN a1))], []⟩ _
  unfold f35 at hF
 case' g26 =>
  refine pure_of_vc (c := mkCtx tyTree []) rfl tyOK (ctx_nil) [[1]] 0 Tryz.func44 rfl rfl (by decide) (by kernel_rfl) ?_
  rintro ds d ⟨N, r, rfl, hF, rfl⟩ hok
  clear hok
  refine ⟨rfl, ?_⟩
  show vc _ _ _ _ ⟨[], []⟩ _
  unfold f44 at hF
 case' g27 =>
  intro N
  refine Nat.rec (motive := λ N => CallOK Tryz.prog 21 (effPg Spf21 (H21 N))) ?_ (λ N ih => ?_) N
  .exact eff_none λ x y h => (by cases (show (none : Option (LB)) = some y from h))
  refine eff_of_vc (c := mkCtx tyTree [(21, true, effPg Spf21 (H21 N)), (54, false, inlPg (mkCtx tyTree []) Tryz.f54), (53, false, inlPg (mkCtx tyTree []) Tryz.f53)]) rfl tyOK (ctx_effL (callable Tryz.func21 rfl rfl) ih (ctx_eff (callable Tryz.func54 rfl rfl) (CallOK.inl rfl tyOK (ctx_nil) Tryz.func54 (by kernel_rfl)) (ctx_eff (callable Tryz.func53 rfl rfl) (CallOK.inl rfl tyOK (ctx_nil) Tryz.func53 (by kernel_rfl)) (ctx_nil)))) 1000 Srf21 Sr0f21 Tryz.func21 rfl rfl (by kernel_rfl) rfl rfl rfl rfl rfl rfl rfl rfl (λ _ => rfl) (λ _ => rfl) (λ _ _ => ⟨rfl, rfl⟩) ?_
  rintro ⟨s0, s1, s2, s3⟩ y hF
  have hF : f21b (f21 N) N s0 s1 s2 s3 = some y := hF
  show vc _ _ _ _ ⟨[(0, .ptr 0 0)], [(0, .box [.ptr 1 0, .rs 2 (List.length s0)]), (1, .box [.mp 3, .mp 4, .mp 5]), (2, .row 9 1 (List.map strN s0)), (3, .fam [4] (encF strN StoneM.m s1) []), (4, .fam [] (encF strN EditionM.m s2) []), (5, .mp (encM strN bN s3))]⟩ _
  unfold f21b at hF
 case' g28 =>
  refine pure_of_vc (c := mkCtx tyTree [(73, true, purePg [[0], [0]] G73)]) rfl tyOK (ctx_cons (callable Tryz.func73 rfl rfl) P73 (ctx_nil)) [[1], [0]] 1 Tryz.func104 rfl rfl (by decide) (by kernel_rfl) ?_
  rintro ds d ⟨N, a0, r, rfl, hF, rfl⟩ hok
  clear hok
  refine ⟨rfl, ?_⟩
  show vc _ _ _ _ ⟨[(0, .dat (strN a0))], []⟩ _
  unfold f104 at hF
 case' g29 =>
  intro P88
  refine pure_of_vc (c := mkCtx tyTree [(88, true, lendPg [[0]] G88)]) rfl tyOK (ctx_lend (callable Tryz.func88 rfl rfl) P88 (ctx_nil)) [[0]] 1 Tryz.func61 rfl rfl (by decide) (by kernel_rfl) ?_
  rintro ds d ⟨N, a0, r, rfl, hF, rfl⟩ hok
  clear hok
  refine ⟨rfl, ?_⟩
  show vc _ _ _ _ ⟨[(0, .dat (strN a0))], []⟩ _
  unfold f61 at hF
 case' g30 =>
  intro P64
  intro N
  refine Nat.rec (motive := λ N => CallOK Tryz.prog 210 (effPg Spf210 (H210 N))) ?_ (λ N ih => ?_) N
  .exact eff_none λ x y h => (by cases (show (none : Option (Int)) = some y from h))
  refine eff_of_vc (c := mkCtx tyTree [(210, true, effPg Spf210 (H210 N)), (64, true, lendPg [[0], [0]] G64)]) rfl tyOK (ctx_effL (callable Tryz.func210 rfl rfl) ih (ctx_lend (callable Tryz.func64 rfl rfl) P64 (ctx_nil))) 1000 Srf210 Sr0f210 Tryz.func210 rfl rfl (by kernel_rfl) rfl rfl rfl rfl rfl rfl rfl rfl (λ _ => rfl) (λ _ => rfl) (λ _ _ => ⟨rfl, rfl⟩) ?_
  rintro ⟨s0, s1, s2, s3⟩ y hF
  have hF : f210b (f210 N) N s0 s1 s2 s3 = some y := hF
  show vc _ _ _ _ ⟨[(0, .dat (.agg [strN s0.customer, strN s0.edition, iN s0.n])), (1, .ptr 0 0)], [(0, .box [.mp 1, .mp 2, .mp 3]), (1, .fam [2] (encF strN StoneM.m s1) []), (2, .fam [] (encF strN EditionM.m s2) []), (3, .mp (encM strN bN s3))]⟩ _
  unfold f210b at hF
 case' g31 =>
  intro P213
  intro N
  refine Nat.rec (motive := λ N => CallOK Tryz.prog 212 (effPg Spf212 (H212 N))) ?_ (λ N ih => ?_) N
  .exact eff_none λ x y h => (by cases (show (none : Option (Int)) = some y from h))
  refine eff_of_vc (c := mkCtx tyTree [(212, true, effPg Spf212 (H212 N)), (213, true, preTake 2 (effPg Spf213 G213))]) rfl tyOK (ctx_effL (callable Tryz.func212 rfl rfl) ih (ctx_preL (callable Tryz.func213 rfl rfl) P213 (λ xs id => Local.effPg xs id) (ctx_nil))) 1000 Srf212 Sr0f212 Tryz.func212 rfl rfl (by kernel_rfl) rfl rfl rfl rfl rfl rfl rfl rfl (λ _ => rfl) (λ _ => rfl) (λ _ _ => ⟨rfl, rfl⟩) ?_
  rintro ⟨s0, s1, s2, s3⟩ y hF
  have hF : f212b (f212 N) N s0 s1 s2 s3 = some y := hF
  show vc _ _ _ _ ⟨[(0, .dat (.agg [strN s0.claiming.customer, strN s0.claiming.edition, iN s0.claiming.n])), (1, .ptr 0 0)], [(0, .box [.mp 1, .mp 2, .mp 3]), (1, .fam [2] (encF strN StoneM.m s1) []), (2, .fam [] (encF strN EditionM.m s2) []), (3, .mp (encM strN bN s3))]⟩ _
  unfold f212b at hF
 all_goals (repeat' (first
  | ((with_reducible first | refine q0 _ _ ?_ | refine q1 _ _ _ _ ?_ | refine q2 _ _ _ ?_); clear Q q0 q1 q2)
  | ((with_reducible first | refine seq_op ?hx (λ Q q0 q1 q2 => ?_) | refine draw_op ?hx (λ Q q0 q1 q2 => ?_) | refine seq_op0 ?hx (λ Q q0 q1 q2 => ?_) | refine draw_op0 ?hx (λ Q q0 q1 q2 => ?_)); (case hx => exact rfl); conv => whnf)
  | ((with_reducible first | refine seq_off ?hx ?_ | refine seq_off0 ?hx ?_ | refine k_blk_out ?hx ?_ | refine vc_condT ?hx ?_ | refine draw_off ?hx ?_ | refine draw_off0 ?hx ?_); (case hx => exact rfl))
  | ((with_reducible have hG := unit_fact hF); (refine seq_nilR0 2 1206 rfl rfl rfl (by first | exact isOut_nil | exact isOut_ne (by decide) isOut_nil) (by assumption) (by exact rfl) ?_); (have hF := hG); clear hG; dsimp only [St.settledF]; (first | ((with_reducible refine hR _ ?_); clear R hR) | ((with_reducible refine hL _ ?_); clear L hL)))
  | ((refine seq_nilR 2 1303 hF rfl rfl rfl (by first | exact isOut_nil | exact isOut_ne (by decide) isOut_nil) (by assumption) (by exact rfl) (by first | exact rfl | assumption | (symm; assumption) | omega) (by exact rfl) (λ q hq hF1 => ?_)); clear hF; (have hF := hF1); clear hF1; dsimp only [St.settledF]; (first | ((with_reducible refine hR _ ?_); clear R hR) | ((with_reducible refine hL _ ?_); clear L hL)))
  | ((refine seq_nilR 2 1206 hF rfl rfl rfl (by first | exact isOut_nil | exact isOut_ne (by decide) isOut_nil) (by assumption) (by exact rfl) (by first | exact rfl | assumption | (symm; assumption) | omega) (by exact rfl) (λ q hq hF1 => ?_)); clear hF; (have hF := hF1); clear hF1; dsimp only [St.settledF]; (first | ((with_reducible refine hR _ ?_); clear R hR) | ((with_reducible refine hL _ ?_); clear L hL)))
  | ((refine seq_nilM 2 1303 hF rfl rfl rfl (by first | exact isOut_nil | exact isOut_ne (by decide) isOut_nil) (by assumption) (by exact rfl) (by exact rfl) (λ q hq hF1 => ?_)); clear hF; (have hF := hF1); clear hF1; dsimp only [St.settledF]; (first | ((with_reducible refine hR _ ?_); clear R hR) | ((with_reducible refine hL _ ?_); clear L hL)))
  | ((with_reducible refine seq_id ?_); (first | ((first | refine seq_opK rfl ?hy (λ Q q0 q1 q2 => ?_) | refine seq_opK0 rfl ?hy (λ Q q0 q1 q2 => ?_)); (case hy => first | assumption | exact notT (by assumption) | exact rfl); conv => whnf) | ((first | refine seq_offK rfl ?hy ?_ | refine seq_offK0 rfl ?hy ?_); (case hy => first | assumption | exact notF (by assumption) | exact rfl)) | (revert hF; (with_reducible first | refine seq_opF ?hx ?_ ?_ | refine seq_opF0 ?hx ?_ ?_); (case hx => exact rfl); (intro hc hF Q q0 q1 q2; conv => whnf); rotate_left; (intro hc hF); rotate_right) | (revert hF; (with_reducible first | refine seq_opN ?hx ?_ ?_ | refine seq_opN0 ?hx ?_ ?_); (case hx => exact rfl); (intro hc hF); rotate_left; (intro hc hF Q q0 q1 q2; conv => whnf); rotate_right)))
  | ((with_reducible refine draw_id ?_); (first | ((first | refine draw_opK rfl ?hy (λ Q q0 q1 q2 => ?_) | refine draw_opK0 rfl ?hy (λ Q q0 q1 q2 => ?_)); (case hy => first | assumption | exact notT (by assumption) | exact rfl); conv => whnf) | ((first | refine draw_offK rfl ?hy ?_ | refine draw_offK0 rfl ?hy ?_); (case hy => first | assumption | exact notF (by assumption) | exact rfl)) | (revert hF; (with_reducible first | refine draw_opF ?hx ?_ ?_ | refine draw_opF0 ?hx ?_ ?_); (case hx => exact rfl); (intro hc hF Q q0 q1 q2; conv => whnf); rotate_left; (intro hc hF); rotate_right) | (revert hF; (with_reducible first | refine draw_opN ?hx ?_ ?_ | refine draw_opN0 ?hx ?_ ?_); (case hx => exact rfl); (intro hc hF); rotate_left; (intro hc hF Q q0 q1 q2; conv => whnf); rotate_right)))
  | ((refine seq_nilR 2 1306 hF rfl rfl rfl (by first | exact isOut_nil | exact isOut_ne (by decide) isOut_nil) (by assumption) (by exact rfl) (by first | exact rfl | assumption | (symm; assumption) | omega) (by exact rfl) (λ q hq hF1 => ?_)); clear hF; (have hF := hF1); clear hF1; dsimp only [St.settledF]; (first | ((with_reducible refine hR _ ?_); clear R hR) | ((with_reducible refine hL _ ?_); clear L hL)))
  | ((with_reducible refine cond_id ?_); (first | ((refine condKT rfl ?hy ?_); (case hy => first | assumption | exact notT (by assumption) | exact rfl)) | ((refine condKF rfl ?hy ?_); (case hy => first | assumption | exact notF (by assumption) | exact rfl)) | (revert hF; (with_reducible refine condF ?hx ?_ ?_); (case hx => exact rfl); all_goals (intro hc hF))))
  | ((with_reducible have hG := unit_fact hF); (refine seq_nilR0 2 1611 rfl rfl rfl (by first | exact isOut_nil | exact isOut_ne (by decide) isOut_nil) (by assumption) (by exact rfl) ?_); (have hF := hG); clear hG; dsimp only [St.settledF]; (first | ((with_reducible refine hR _ ?_); clear R hR) | ((with_reducible refine hL _ ?_); clear L hL)))
  | ((with_reducible have hG := unit_fact hF); (refine seq_nilR0 2 1603 rfl rfl rfl (by first | exact isOut_nil | exact isOut_ne (by decide) isOut_nil) (by assumption) (by exact rfl) ?_); (have hF := hG); clear hG; dsimp only [St.settledF]; (first | ((with_reducible refine hR _ ?_); clear R hR) | ((with_reducible refine hL _ ?_); clear L hL)))
  | ((with_reducible have hG := unit_fact hF); (refine seq_nilM0 2 1403 rfl rfl rfl (by first | exact isOut_nil | exact isOut_ne (by decide) isOut_nil) (by assumption) (by exact rfl) ?_); (have hF := hG); clear hG; dsimp only [St.settledF]; (first | ((with_reducible refine hR _ ?_); clear R hR) | ((with_reducible refine hL _ ?_); clear L hL)))
  | ((with_reducible have hG := unit_fact hF); (refine seq_nilR0 2 2104 rfl rfl rfl (by first | exact isOut_nil | exact isOut_ne (by decide) isOut_nil) (by assumption) (by exact rfl) ?_); (have hF := hG); clear hG; dsimp only [St.settledF]; (first | ((with_reducible refine hR _ ?_); clear R hR) | ((with_reducible refine hL _ ?_); clear L hL)))
  | ((with_reducible refine seq_nil ?_); (first | ((with_reducible refine hR _ ?_); clear R hR) | ((with_reducible refine hL _ ?_); clear L hL)))
  | ((with_reducible refine draw_nil ?_); (with_reducible refine hR _ _ ?hx ?_); (case hx => kernel_rfl); clear R hR)
  | ((with_reducible first | refine int_step ?_ | refine idx2 (by assumption) ?_ | refine idx3 (by assumption) ?_ | refine len_step ?_); conv => whnf)
  | (with_reducible first | refine vc_block ?_ | refine vc_skip ?_ | refine vc_ret ?_ | refine vc_exit ?_ | refine vc_region (λ R hR => ?_) | refine k_seq_ret ?_ | refine k_seq_exit ?_ | refine k_blk ?_ | refine k_blk_ret ?_ | refine k_blk_here ?_ | refine k_loop_ret ?_ | refine k_loop_exit ?_ | refine vc_scope ?_ | refine vc_label ?_)
  | ((with_reducible refine vc_seqN [9, 3] ?hx ?_); (case hx => exact rfl))
  | ((with_reducible refine vc_seqN [6] ?hx ?_); (case hx => exact rfl))
  | ((with_reducible refine vc_seqN [] ?hx ?_); (case hx => exact rfl))
  | ((with_reducible refine vc_seqN [7] ?hx ?_); (case hx => exact rfl))
  | ((with_reducible refine vc_seqN [15, 10, 9] ?hx ?_); (case hx => exact rfl))
  | ((with_reducible refine vc_seqN [15, 14] ?hx ?_); (case hx => exact rfl))
  | ((with_reducible refine vc_seqN [104000000006] ?hx ?_); (case hx => exact rfl))
  | ((with_reducible refine vc_seqN [3] ?hx ?_); (case hx => exact rfl))
  | ((with_reducible refine vc_seqN [8] ?hx ?_); (case hx => exact rfl))
  | (revert hF; (with_reducible refine G88.lend ?hx ?_); (case hx => exact rfl); intro v hF; conv => whnf)
  | ((with_reducible refine vc_draw ?hx (λ R L hL hR => ?_)); (case hx => exact rfl))
  | ((with_reducible replace hF := isE hF); (dsimp only [Lf105_c9, Lf105_4, Lf105_c3, f105_4, Lf88_c6, Lf88_2, f88_2, Lf64_c7, Lf64_3, f64_3, Lf143_c15, Lf143_11, Lf143_c10, Lf143_c9, Lf143_3, f143_11, f143_3, Lf145_c15, Lf145_c14, Lf145_7, Lf145_3, f145_7, f145_3, Lf132_i103_c6, Lf132_i103_2, f132_i103_2, Lf147_c7, Lf147_2, f147_2, Lf148_c3, Lf148_1, f148_1, Lf35_c8, Lf35_4, f35_4, Lf104_c8, Lf104_3, f104_3] at hF); first | ((with_reducible replace hF := chkE (e := f105_c3 ..) hF); rewrite [f105_c3] at hF) | ((with_reducible replace hF := chkE (e := f88_c6 ..) hF); rewrite [f88_c6] at hF) | ((with_reducible replace hF := chkE (e := f147_c7) hF); rewrite [f147_c7] at hF) | ((with_reducible replace hF := chkE (e := f35_c8) hF); rewrite [f35_c8] at hF) | rewrite [f105_c9] at hF | rewrite [f105_4b] at hF | rewrite [f88_2b] at hF | rewrite [f64_c7] at hF | rewrite [f64_3b] at hF | rewrite [f143_c15] at hF | rewrite [f143_11b] at hF | rewrite [f143_c10] at hF | rewrite [f143_c9] at hF | rewrite [f143_3b] at hF | rewrite [f145_c15] at hF | rewrite [f145_c14] at hF | rewrite [f145_7b] at hF | rewrite [f145_3b] at hF | rewrite [f132_i103_c6] at hF | rewrite [f132_i103_2b] at hF | rewrite [f147_2b] at hF | rewrite [f148_c3] at hF | rewrite [f148_1b] at hF | rewrite [f35_4b] at hF | rewrite [f104_c8] at hF | rewrite [f104_3b] at hF)
  | ((refine mc_step rfl hx (by exact rfl) ?_); conv => whnf)
  | (revert hF; (with_reducible refine G64.lend ?hx ?_); (case hx => exact rfl); intro v hF; conv => whnf)
  | (revert hF; (refine G213.step rfl rfl rfl (by assumption) (by exact rfl) (by exact rfl) ?_); (intro y hy hF); conv => whnf)
  | ((with_reducible refine back_id ?_); (with_reducible replace hF := toLp 0 2 hF); exact Lp.backI hF () ⟨_, rfl, rfl, rfl, rfl⟩ rfl)
  | ((with_reducible refine back_id ?_); (with_reducible replace hF := toLp 0 1 hF); exact Lp.backI hF () ⟨_, rfl, rfl, rfl, rfl⟩ rfl)
  | ((refine Or.inl ⟨_, outOf_head, ?_⟩); conv => whnf)
  | (cases hF; (refine Or.inl ?_); (conv => whnf); exact ⟨rfl, rfl, rfl⟩)
  | ((with_reducible refine back_id ?_); (with_reducible replace hF := toLp 1 2 hF); exact Lp.backI hF (_, ()) ⟨_, rfl, rfl, rfl, rfl⟩ (pr2 (by first | exact rfl | assumption | omega | (simp only [List.length_set]; done)) rfl))
  | ((with_reducible refine back_id ?_); (with_reducible replace hF := toLp 0 4 hF); exact Lp.backI hF () ⟨_, rfl, rfl, rfl, rfl⟩ rfl)
  | ((with_reducible refine head_id ?_); (with_reducible replace hF := toLp 0 0 hF); exact Lp.headI hF () ⟨_, rfl, rfl, rfl, rfl⟩ rfl)
  | ((refine ⟨?h, ?_⟩; (case h => exact ⟨h1, h2⟩)); conv => whnf)
  | ((with_reducible have hG := insF_fact hF); clear hF; (refine insF_step (eM := StoneM.m) hG strN_inj ?hk ?hd ?he [.d default, .p 0 none, .d default] rfl ?_); (case hk => exact λ _ => rfl); (case hd => exact rfl); (case he => exact rfl); (conv => whnf); (refine ⟨⟨rfl, rfl, (by decide)⟩, ?_⟩); (refine insF_go hG rfl rfl rfl (λ q hq hF => ?_)); clear hG; conv => whnf)
  | ((with_reducible have hG := insF_fact hF); clear hF; (refine insF_step (eM := EditionM.m) hG strN_inj ?hk ?hd ?he [.d default, .d default, .r 3 1 [], .d default, .d default, .d default, .d default, .m [], .d default] rfl ?_); (case hk => exact λ _ => rfl); (case hd => exact rfl); (case he => exact rfl); (conv => whnf); (refine ⟨⟨rfl, rfl, (by decide)⟩, ?_⟩); (refine insF_go hG rfl rfl rfl (λ q hq hF => ?_)); clear hG; conv => whnf)
  | (revert hF; (refine look_step (eK := strN) (eV := iN) strN_inj ?hk ?hz ?hd ?he ?_); (case hk => exact λ _ => rfl); (case hz => exact rfl); (case hd => exact rfl); (case he => exact rfl); intro x hF; conv => whnf)
  | ((refine wholeF_step rfl (by assumption) (λ d hp => ?_)); (conv => whnf); (refine wholeF_go hF hp (by assumption) rfl (by exact rfl) (λ q hq hF1 => ?_)); clear hp; clear hF; (have hF := hF1); clear hF1; conv => whnf)
  | ((with_reducible have hG := app_fact hF); clear hF; (first | ((refine app_row hG ?hn ?hs (λ q hF => ?_)); (case hn => first | exact rfl | assumption | omega); (case hs => exact rfl)) | ((refine app_nil (d := strN) hG ?hs (λ q hF => ?_)); (case hs => exact rfl)) | ((refine app_gen (d := strN) hG ?ho ?hn ?hs (λ q hF => ?_)); (case ho => exact rfl); (case hn => exact rfl); (case hs => exact rfl))); clear hG; conv => whnf)
  | (revert hF; (refine lenM_step ?_); intro x hF; conv => whnf)
  | ((with_reducible refine head_id ?_); (with_reducible replace hF := toLp 0 1 hF); exact Lp.headI hF () ⟨_, rfl, rfl, rfl, rfl⟩ rfl)
  | ((with_reducible refine loop_id ?_); (with_reducible replace hF := toLp 0 1 hF); ((refine Lp.loopI hF () rfl ⟨_, rfl, rfl, rfl, rfl⟩ rfl (λ _ => rfl) ?_); clear hF); (rintro n _ hF))
  | (revert hF; (refine put_step (eK := strN) (eV := iN) strN_inj ?hk ?hv ?hd ?he ?_); (case hk => exact λ _ => rfl); (case hv => exact rfl); (case hd => exact rfl); (case he => exact rfl); intro x hF; conv => whnf)
  | (revert hF; (refine lookF_step (eK := strN) (eM := StoneM.m) strN_inj ?hk ?hd ?he ?_ ?_); (case hk => exact λ _ => rfl); (case hd => exact rfl); (case he => exact rfl); (intro hl hF; conv => whnf); rotate_left; (intro i hl hF; conv => whnf); rotate_right)
  | (revert hF; (refine look_step (eK := strN) (eV := bN) strN_inj ?hk ?hz ?hd ?he ?_); (case hk => exact λ _ => rfl); (case hz => exact rfl); (case hd => exact rfl); (case he => exact rfl); intro x hF; conv => whnf)
  | ((with_reducible refine head_id ?_); (with_reducible replace hF := toLp 1 1 hF); exact Lp.headI hF (_, ()) ⟨_, rfl, rfl, rfl, rfl⟩ (pr2 (by first | exact rfl | assumption | omega | (simp only [List.length_set]; done)) rfl))
  | (revert hF; (refine put_step (eK := strN) (eV := bN) strN_inj ?hk ?hv ?hd ?he ?_); (case hk => exact λ _ => rfl); (case hv => exact rfl); (case hd => exact rfl); (case he => exact rfl); intro x hF; conv => whnf)
  | ((with_reducible refine loop_id ?_); (with_reducible replace hF := toLp 0 2 hF); ((refine Lp.loopI hF () rfl ⟨_, rfl, rfl, rfl, rfl⟩ rfl (λ _ => rfl) ?_); clear hF); (rintro n ⟨_, _⟩ hF))
  | (revert hF; (refine lookF_step (eK := strN) (eM := EditionM.m) strN_inj ?hk ?hd ?he ?_ ?_); (case hk => exact λ _ => rfl); (case hd => exact rfl); (case he => exact rfl); (intro hl hF; conv => whnf); rotate_left; (intro i hl hF; conv => whnf); rotate_right)
  | ((with_reducible refine seq_id' ?_); (with_reducible replace hF := toCut 0 hF); ((refine Lp.cutI hF rfl rfl ?_ ?_) <;> clear hF); (intro hF); rotate_left; (rintro _ hF); rotate_right)
  | ((with_reducible refine loop_id ?_); (with_reducible replace hF := toLp 1 2 hF); ((refine Lp.loopI hF (_, ()) rfl ⟨_, rfl, rfl, rfl, rfl⟩ (pr2 (by first | exact rfl | assumption | omega | (simp only [List.length_set]; done)) rfl) (λ _ => rfl) ?_); clear hF); (rintro n ⟨_, _⟩ hF))
  | ((with_reducible refine loop_id ?_); (with_reducible replace hF := toLp 0 4 hF); ((refine Lp.loopI hF () rfl ⟨_, rfl, rfl, rfl, rfl⟩ rfl (λ _ => rfl) ?_); clear hF); (rintro n ⟨_, _, _, _⟩ hF))
  | (revert hF; (refine lenF_step rfl ?_); intro x hF; conv => whnf)
  | ((refine mc_step rfl (by assumption) (by exact rfl) ?_); conv => whnf)
  | ((with_reducible refine seq_id' ?_); (with_reducible replace hF := toCut 1 hF); ((refine Lp.cutI hF rfl rfl ?_ ?_) <;> clear hF); (intro hF); rotate_left; (rintro _ hF); rotate_right)
  | ((with_reducible have hG := getF_fact hF); clear hF; (obtain ⟨⟨x, hx, hF⟩⟩ := hG); first | ((refine mc_step rfl hx (by exact rfl) ?_); conv => whnf) | skip)
  | ((with_reducible have hI := is_idxS hF); clear hI; revert hF; (refine idxS_step ?_); intro x hF; conv => whnf)
  | (revert hF; (refine mkA_row (d := iN) ?hz ?_); (case hz => exact rfl); intro x hF; conv => whnf)
  | ((refine Or.inr ?_); (conv => whnf); (with_reducible refine zeroD_step (List.map bN (List.replicate 10 false)) ?hx ?_); (case hx => (unfold zeroD; kernel_rfl)); conv => whnf)
  | (revert hF; (with_reducible refine G73.step ?hx ?_); (case hx => exact rfl); intro v hF; conv => whnf)
  | ((refine Or.inr ?_); (conv => whnf); (refine take_row (by first | exact isOut_nil | exact isOut_ne (by decide) isOut_nil) ?_); conv => whnf)
  | ((refine ⟨(by first | exact isOut_nil | exact isOut_ne (by decide) isOut_nil), ?_⟩); conv => whnf)
  | ((refine lendF_step rfl (by assumption) (λ key => ?_)); conv => whnf)
  | ((with_reducible refine chkI_go hF ?_); (clear hF; intro hF; conv => whnf))
  | (revert hF; (refine some_step ?_); intro x hF; conv => whnf)
  | (revert hF; (refine optP_step ?_ ?_); (intro ho hF; conv => whnf); rotate_left; (intro j ho hF; conv => whnf); rotate_right)
  | ((with_reducible have hG := ixN_fact hF); clear hF; (first | (refine ixN_one hG (by (try simp only [W]); omega) (λ x hF => ?_)) | (refine ixN_agg hG (λ _ => rfl) (by (try simp only [W]); omega) (λ x hF => ?_))); clear hG; conv => whnf)
  | ((refine optP_old (by assumption) ?_); conv => whnf)
  | ((with_reducible have hG := setN_fact hF); clear hF; (first | (refine setN_one hG (by (try simp only [W]); omega) rfl rfl (λ q hF => ?_)) | (refine setN_agg hG (λ _ => rfl) (by (try simp only [W]); omega) rfl rfl (λ q hF => ?_))); clear hG; conv => whnf)
  | ((refine optP_old0 (by assumption) ?_); conv => whnf)
  | ((refine setF_step hF (by assumption) rfl (by exact rfl) (λ q hq hF1 => ?_)); clear hF; (have hF := hF1); clear hF1; conv => whnf)
  | (revert hF; (with_reducible refine idx1 ?hn ?_); (case hn => first | exact rfl | exact (List.length_map _) | assumption | omega | simp); intro x hx hF; conv => whnf)
  | ((refine putF_step hF (by assumption) rfl (by first | exact rfl | assumption | omega) (by exact rfl) (by first | exact filt_head.trans filt_nil | exact filt_nil | exact rfl) (λ q hq hF1 => ?_)); clear hF; (have hF := hF1); clear hF1; conv => whnf)
  | ((with_reducible refine le_step ?hn ?_); (case hn => first | exact rfl | assumption | omega); conv => whnf)
  | ((with_reducible have hG := sub_fact hF); clear hF; (refine sub_step hG (λ q hF => ?_)); clear hG; conv => whnf)
  | ((with_reducible have hG := subR_fact hF); clear hF; (refine Or.inl (Or.inl ?_)); (conv => whnf); (refine subrow_step hG ?hn (λ q hF => ?_); (case hn => first | exact rfl | assumption | omega)); clear hG; conv => whnf)
  | ((refine inl_stepN 103 104000000 rfl rfl (Nat.le_of_ble_eq_true rfl) rfl (λ R hR => ?_)); (conv => whnf); (with_reducible refine hR _ ?ha ?_); (case ha => exact rfl); clear R hR)
  | ((with_reducible refine k_seq ?_))
  | ((with_reducible have hG := setx_fact hF); clear hF; (refine setx_step hG ?hs (λ q hl hF => ?_)); (case hs => exact rfl); clear hG; conv => whnf)
  | ((with_reducible have hG := app_fact hF); clear hF; (first | ((refine app_row hG ?hn ?hs (λ q hF => ?_)); (case hn => first | exact rfl | assumption | omega); (case hs => exact rfl)) | ((refine app_nil (d := iN) hG ?hs (λ q hF => ?_)); (case hs => exact rfl)) | ((refine app_gen (d := iN) hG ?ho ?hn ?hs (λ q hF => ?_)); (case ho => exact rfl); (case hn => exact rfl); (case hs => exact rfl))); clear hG; conv => whnf)
  | ((refine inl_stepN 104000403 104000404000000 rfl rfl (Nat.le_of_ble_eq_true rfl) rfl (λ R hR => ?_)); (conv => whnf); (with_reducible refine hR _ ?ha ?_); (case ha => exact rfl); clear R hR)
  | ((refine ⟨?h, ?_⟩; (case h => (simp only [List.length_map]; done))); conv => whnf)
  | ((refine ⟨?hx, ?_⟩); (case hx => exact ⟨rfl, Nat.le_of_ble_eq_true rfl, rfl⟩); conv => whnf)
  | ((refine row_all ?hn ?_); (case hn => first | exact rfl | (simp; done) | (simp; omega)); conv => whnf)
  | (show retE _ _ _ _ _ _ _ _; conv => whnf)
  | ((with_reducible refine ex_step ?_); conv => whnf)
  | (revert hF; (refine dem_stepN ?hn ?_ ?_); (case hn => first | exact rfl | assumption | omega); (intro hl hF; conv => whnf); rotate_left; (intro hF; conv => whnf); rotate_right)
  | ((refine Or.inl ?_); (conv => whnf); exact ⟨rfl, rfl, rfl⟩)
  | ((with_reducible refine both_T ?hx ?_); (case hx => first | exact rfl | assumption | exact notT (by assumption)); conv => whnf)
  | ((refine inl_stepN 901 902000000 rfl rfl (Nat.le_of_ble_eq_true rfl) rfl (λ R hR => ?_)); (conv => whnf); (with_reducible refine hR _ ?ha ?_); (case ha => exact rfl); clear R hR)
  | ((with_reducible have hG := chk_fact hF); clear hF; (refine ⟨?hx, ?_⟩); (case hx => (first | exact of_decide_eq_true hG.1 | exact hG.1)); have hF := hG.2; clear hG; conv => whnf)
  | ((with_reducible refine both_F ?hx ?_); (case hx => first | exact rfl | assumption | exact notF (by assumption)); conv => whnf)
  | (revert hF; (with_reducible refine ite_step ?_ ?_) <;> (intro hc hF; conv => whnf))
  | ((refine inl_stepN 1101 1102000000 rfl rfl (Nat.le_of_ble_eq_true rfl) rfl (λ R hR => ?_)); (conv => whnf); (with_reducible refine hR _ ?ha ?_); (case ha => exact rfl); clear R hR)
  | ((refine inl_stepN 1304 1305000000 rfl rfl (Nat.le_of_ble_eq_true rfl) rfl (λ R hR => ?_)); (conv => whnf); (with_reducible refine hR _ ?ha ?_); (case ha => exact rfl); clear R hR)
  | (show Kinl _ _ _ _ _ _ _; conv => whnf)
  | ((with_reducible refine kinl_step ?ha ?hb ?_); (case ha => exact rfl); (case hb => exact rfl); conv => whnf)
  | ((refine ⟨?hx, trivial⟩); (case hx => (cases hF; exact rfl)))
  | ((refine ⟨?hx, ?_⟩); (case hx => decide); conv => whnf)
  | with_reducible refine k_seq ?_
  | (have hF : (none : Option _) = some _ := hF; cases hF)))
theorem P105 : A105 := Wall0.1
theorem P88 : A88 := Wall0.2.1
theorem P108 : A108 := Wall0.2.2.1
theorem Q198 : ∀ N : Nat, CallOK Tryz.prog 198 (effPg Spf198 (H198 N)) := Wall0.2.2.2.1
theorem P198 : A198 := eff_ex Q198
theorem Q200 : ∀ N : Nat, CallOK Tryz.prog 200 (effPg Spf200 (H200 N)) := Wall0.2.2.2.2.1
theorem P200 : A200 := eff_ex Q200
theorem Q202 : ∀ N : Nat, CallOK Tryz.prog 202 (effPg Spf202 (H202 N)) := Wall0.2.2.2.2.2.1
theorem P202 : A202 := eff_ex Q202
theorem Q204 : ∀ N : Nat, CallOK Tryz.prog 204 (effPg Spf204 (H204 N)) := Wall0.2.2.2.2.2.2.1
theorem P204 : A204 := eff_ex Q204
theorem Q206 : ∀ N : Nat, CallOK Tryz.prog 206 (effPg Spf206 (H206 N)) := Wall0.2.2.2.2.2.2.2.1
theorem P206 : A206 := eff_ex Q206
theorem Q208 : ∀ N : Nat, CallOK Tryz.prog 208 (effPg Spf208 (H208 N)) := Wall0.2.2.2.2.2.2.2.2.1
theorem P208 : A208 := eff_ex Q208
theorem P64 : A64 := Wall0.2.2.2.2.2.2.2.2.2.1
theorem P213 : A213 := Wall0.2.2.2.2.2.2.2.2.2.2.1
theorem Q197 : ∀ N : Nat, CallOK Tryz.prog 197 (effPg Spf197 (H197 N)) := Wall0.2.2.2.2.2.2.2.2.2.2.2.1
theorem P197 : A197 := eff_ex Q197
theorem Q199 : ∀ N : Nat, CallOK Tryz.prog 199 (effPg Spf199 (H199 N)) := Wall0.2.2.2.2.2.2.2.2.2.2.2.2.1
theorem P199 : A199 := eff_ex Q199
theorem Q201 : ∀ N : Nat, CallOK Tryz.prog 201 (effPg Spf201 (H201 N)) := Wall0.2.2.2.2.2.2.2.2.2.2.2.2.2.1
theorem P201 : A201 := eff_ex Q201
theorem Q203 : ∀ N : Nat, CallOK Tryz.prog 203 (effPg Spf203 (H203 N)) := Wall0.2.2.2.2.2.2.2.2.2.2.2.2.2.2.1
theorem P203 : A203 := eff_ex Q203
theorem Q205 : ∀ N : Nat, CallOK Tryz.prog 205 (effPg Spf205 (H205 N)) := Wall0.2.2.2.2.2.2.2.2.2.2.2.2.2.2.2.1
theorem P205 : A205 := eff_ex Q205
theorem Q207 : ∀ N : Nat, CallOK Tryz.prog 207 (effPg Spf207 (H207 N)) := Wall0.2.2.2.2.2.2.2.2.2.2.2.2.2.2.2.2.1
theorem P207 : A207 := eff_ex Q207
theorem Q209 : ∀ N : Nat, CallOK Tryz.prog 209 (effPg Spf209 (H209 N)) := Wall0.2.2.2.2.2.2.2.2.2.2.2.2.2.2.2.2.2.1
theorem P209 : A209 := eff_ex Q209
theorem Q214 : ∀ N : Nat, CallOK Tryz.prog 214 (effPg Spf214 (H214 N)) := Wall0.2.2.2.2.2.2.2.2.2.2.2.2.2.2.2.2.2.2.1
theorem P214 : A214 := eff_ex Q214
theorem P117 : A117 := Wall0.2.2.2.2.2.2.2.2.2.2.2.2.2.2.2.2.2.2.2.1
theorem P143 : A143 := Wall0.2.2.2.2.2.2.2.2.2.2.2.2.2.2.2.2.2.2.2.2.1
theorem P145 : A145 := Wall0.2.2.2.2.2.2.2.2.2.2.2.2.2.2.2.2.2.2.2.2.2.1
theorem P132 : A132 := Wall0.2.2.2.2.2.2.2.2.2.2.2.2.2.2.2.2.2.2.2.2.2.2.1
theorem P147 : A147 := Wall0.2.2.2.2.2.2.2.2.2.2.2.2.2.2.2.2.2.2.2.2.2.2.2.1
theorem P148 : A148 := Wall0.2.2.2.2.2.2.2.2.2.2.2.2.2.2.2.2.2.2.2.2.2.2.2.2.1
theorem P35 : A35 := Wall0.2.2.2.2.2.2.2.2.2.2.2.2.2.2.2.2.2.2.2.2.2.2.2.2.2.1
theorem P44 : A44 := Wall0.2.2.2.2.2.2.2.2.2.2.2.2.2.2.2.2.2.2.2.2.2.2.2.2.2.2.1
theorem Q21 : ∀ N : Nat, CallOK Tryz.prog 21 (effPg Spf21 (H21 N)) := Wall0.2.2.2.2.2.2.2.2.2.2.2.2.2.2.2.2.2.2.2.2.2.2.2.2.2.2.2.1
theorem P21 : A21 := eff_ex Q21
theorem P104 : A104 := Wall0.2.2.2.2.2.2.2.2.2.2.2.2.2.2.2.2.2.2.2.2.2.2.2.2.2.2.2.2.1
theorem P61 : A61 := Wall0.2.2.2.2.2.2.2.2.2.2.2.2.2.2.2.2.2.2.2.2.2.2.2.2.2.2.2.2.2.1 P88
theorem Q210 : ∀ N : Nat, CallOK Tryz.prog 210 (effPg Spf210 (H210 N)) := Wall0.2.2.2.2.2.2.2.2.2.2.2.2.2.2.2.2.2.2.2.2.2.2.2.2.2.2.2.2.2.2.1 P64
theorem P210 : A210 := eff_ex Q210
theorem Q212 : ∀ N : Nat, CallOK Tryz.prog 212 (effPg Spf212 (H212 N)) := Wall0.2.2.2.2.2.2.2.2.2.2.2.2.2.2.2.2.2.2.2.2.2.2.2.2.2.2.2.2.2.2.2 P213
theorem P212 : A212 := eff_ex Q212

end Go.Vc
namespace Go.Vc
open Go.Proofs
abbrev A215 : Prop := CallOK Tryz.prog 215 (effPg Spf215 G215)
abbrev A211 : Prop := CallOK Tryz.prog 211 (effPg Spf211 G211)
abbrev A116 : Prop := PureOK Tryz.prog 116 G116
abbrev A119 : Prop := PureOK Tryz.prog 119 G119
abbrev A107 : Prop := PureOK Tryz.prog 107 G107
abbrev A158 : Prop := PureOK Tryz.prog 158 G158
abbrev A84 : Prop := PureOK Tryz.prog 84 G84
abbrev A32 : Prop := CallOK Tryz.prog 32 (effPg Spf32 G32)
abbrev A33 : Prop := CallOK Tryz.prog 33 (effPg Spf33 G33)
abbrev A34 : Prop := CallOK Tryz.prog 34 (effPg Spf34 G34)
abbrev A36 : Prop := CallOK Tryz.prog 36 (effPg Spf36 G36)
abbrev A40 : Prop := CallOK Tryz.prog 40 (effPg Spf40 G40)
abbrev A79 : Prop := PureOK Tryz.prog 79 G79
abbrev A146 : Prop := PureOK Tryz.prog 146 G146
abbrev A131 : Prop := PureOK Tryz.prog 131 G131
abbrev A51 : Prop := CallOK Tryz.prog 51 (effPg Spf51 G51)
abbrev A118 : Prop := PureOK Tryz.prog 118 G118
abbrev A101 : Prop := PureOK Tryz.prog 101 G101
abbrev A17 : Prop := CallOK Tryz.prog 17 (effPg Spf17 G17)
abbrev A18 : Prop := CallOK Tryz.prog 18 (effPg Spf18 G18)
abbrev A83 : Prop := PureOK Tryz.prog 83 G83
abbrev A57 : Prop := PureOK Tryz.prog 57 G57
abbrev A23 : Prop := CallOK Tryz.prog 23 (effPg Spf23 G23)
abbrev A75 : Prop := PureOK Tryz.prog 75 G75
abbrev A14 : Prop := PureOK Tryz.prog 14 G14
abbrev A10 : Prop := PureOK Tryz.prog 10 G10
set_option maxRecDepth 20000 in
set_option maxHeartbeats 400000000 in
theorem Wall1 : (∀ N : Nat, CallOK Tryz.prog 215 (effPg Spf215 (H215 N))) /\ (∀ N : Nat, CallOK Tryz.prog 211 (effPg Spf211 (H211 N))) /\ (A116) /\ (A119) /\ (A107) /\ (A116 -> A158) /\ (A119 -> A84) /\ (∀ N : Nat, CallOK Tryz.prog 32 (effPg Spf32 (H32 N))) /\ (∀ N : Nat, CallOK Tryz.prog 33 (effPg Spf33 (H33 N))) /\ (∀ N : Nat, CallOK Tryz.prog 34 (effPg Spf34 (H34 N))) /\ (∀ N : Nat, CallOK Tryz.prog 36 (effPg Spf36 (H36 N))) /\ (∀ N : Nat, CallOK Tryz.prog 40 (effPg Spf40 (H40 N))) /\ (A107 -> A79) /\ (A158 -> A146) /\ (A158 -> A116 -> A131) /\ (A215 -> A79 -> (∀ N : Nat, CallOK Tryz.prog 51 (effPg Spf51 (H51 N)))) /\ (A146 -> A118) /\ (A131 -> A101) /\ (A51 -> (∀ N : Nat, CallOK Tryz.prog 17 (effPg Spf17 (H17 N)))) /\ (A211 -> A51 -> (∀ N : Nat, CallOK Tryz.prog 18 (effPg Spf18 (H18 N)))) /\ (A118 -> A116 -> A83) /\ (A84 -> A83 -> A57) /\ (A57 -> (∀ N : Nat, CallOK Tryz.prog 23 (effPg Spf23 (H23 N)))) /\ (A101 -> A84 -> A57 -> A75) /\ (A40 -> A36 -> A34 -> A33 -> A32 -> A23 -> A18 -> A17 -> A14) /\ (A18 -> A75 -> A36 -> A34 -> A32 -> A14 -> A10) := by
 refine ⟨?g0, ?g1, ?g2, ?g3, ?g4, ?g5, ?g6, ?g7, ?g8, ?g9, ?g10, ?g11, ?g12, ?g13, ?g14, ?g15, ?g16, ?g17, ?g18, ?g19, ?g20, ?g21, ?g22, ?g23, ?g24, ?g25⟩
 case' g0 =>
  intro N
  refine Nat.rec (motive := λ N => CallOK Tryz.prog 215 (effPg Spf215 (H215 N))) ?_ (λ N ih => ?_) N
  .exact eff_none λ x y h => (by cases (show (none : Option (Int)) = some y from h))
  refine eff_of_vc (c := mkCtx tyTree [(215, true, effPg Spf215 (H215 N)), (64, true, lendPg [[0], [0]] G64)]) rfl tyOK (ctx_effL (callable Tryz.func215 rfl rfl) ih (ctx_lend (callable Tryz.func64 rfl rfl) P64 (ctx_nil))) 1000 Srf215 Sr0f215 Tryz.func215 rfl rfl (by kernel_rfl) rfl rfl rfl rfl rfl rfl rfl rfl (λ _ => rfl) (λ _ => rfl) (λ _ _ => ⟨rfl, rfl⟩) ?_
  rintro ⟨s0, s1, s2, s3⟩ y hF
  have hF : f215b (f215 N) N s0 s1 s2 s3 = some y := hF
  show vc _ _ _ _ ⟨[(0, .dat (.agg [strN s0.stone])), (1, .ptr 0 0)], [(0, .box [.mp 1, .mp 2, .mp 3]), (1, .fam [2] (encF strN StoneM.m s1) []), (2, .fam [] (encF strN EditionM.m s2) []), (3, .mp (encM strN bN s3))]⟩ _
  unfold f215b at hF
 case' g1 =>
  intro N
  refine Nat.rec (motive := λ N => CallOK Tryz.prog 211 (effPg Spf211 (H211 N))) ?_ (λ N ih => ?_) N
  .exact eff_none λ x y h => (by cases (show (none : Option (LE)) = some y from h))
  refine eff_of_vc (c := mkCtx tyTree [(211, true, effPg Spf211 (H211 N)), (213, true, preTake 2 (effPg Spf213 G213))]) rfl tyOK (ctx_effL (callable Tryz.func211 rfl rfl) ih (ctx_preL (callable Tryz.func213 rfl rfl) P213 (λ xs id => Local.effPg xs id) (ctx_nil))) 1000 Srf211 Sr0f211 Tryz.func211 rfl rfl (by kernel_rfl) rfl rfl rfl rfl rfl rfl rfl rfl (λ _ => rfl) (λ _ => rfl) (λ _ _ => ⟨rfl, rfl⟩) ?_
  rintro ⟨s0, s1, s2, s3⟩ y hF
  have hF : f211b (f211 N) N s0 s1 s2 s3 = some y := hF
  show vc _ _ _ _ ⟨[(0, .dat (.agg [strN s0.claiming.customer, strN s0.claiming.edition, iN s0.claiming.n])), (1, .ptr 0 0)], [(0, .box [.mp 1, .mp 2, .mp 3]), (1, .fam [2] (encF strN StoneM.m s1) []), (2, .fam [] (encF strN EditionM.m s2) []), (3, .mp (encM strN bN s3))]⟩ _
  unfold f211b at hF
 case' g2 =>
  refine pure_of_vc (c := mkCtx tyTree [(142, false, inlPg (mkCtx tyTree [(165, false, inlPg (mkCtx tyTree [(144, false, inlPg (mkCtx tyTree [(117, true, lendPg [[0], [0], [0]] G117)]) Tryz.f144)]) Tryz.f165)]) Tryz.f142), (140, false, inlPg (mkCtx tyTree [(164, false, inlPg (mkCtx tyTree [(141, false, inlPg (mkCtx tyTree []) Tryz.f141)]) Tryz.f164)]) Tryz.f140), (145, true, lendPg [[1]] G145), (143, true, purePg [[1]] G143), (117, true, lendPg [[0], [0], [0]] G117)]) rfl tyOK (ctx_eff (callable Tryz.func142 rfl rfl) (CallOK.inl rfl tyOK (ctx_eff (callable Tryz.func165 rfl rfl) (CallOK.inl rfl tyOK (ctx_eff (callable Tryz.func144 rfl rfl) (CallOK.inl rfl tyOK (ctx_lend (callable Tryz.func117 rfl rfl) P117 (ctx_nil)) Tryz.func144 (by kernel_rfl)) (ctx_nil)) Tryz.func165 (by kernel_rfl)) (ctx_nil)) Tryz.func142 (by kernel_rfl)) (ctx_eff (callable Tryz.func140 rfl rfl) (CallOK.inl rfl tyOK (ctx_eff (callable Tryz.func164 rfl rfl) (CallOK.inl rfl tyOK (ctx_eff (callable Tryz.func141 rfl rfl) (CallOK.inl rfl tyOK (ctx_nil) Tryz.func141 (by kernel_rfl)) (ctx_nil)) Tryz.func164 (by kernel_rfl)) (ctx_nil)) Tryz.func140 (by kernel_rfl)) (ctx_lend (callable Tryz.func145 rfl rfl) P145 (ctx_cons (callable Tryz.func143 rfl rfl) P143 (ctx_lend (callable Tryz.func117 rfl rfl) P117 (ctx_nil)))))) [[0]] 1 Tryz.func116 rfl rfl (by decide) (by kernel_rfl) ?_
  rintro ds d ⟨N, a0, r, rfl, hF, rfl⟩ hok
  clear hok
  refine ⟨rfl, ?_⟩
  show vc _ _ _ _ ⟨[(0, .dat (sl_sl_iN a0))], []⟩ _
  unfold f116 at hF
 case' g3 =>
  refine pure_of_vc (c := mkCtx tyTree [(148, true, lendPg [[0], [0]] G148), (117, true, lendPg [[0], [0], [0]] G117)]) rfl tyOK (ctx_lend (callable Tryz.func148 rfl rfl) P148 (ctx_lend (callable Tryz.func117 rfl rfl) P117 (ctx_nil))) [[1], [0]] 2 Tryz.func119 rfl rfl (by decide) (by kernel_rfl) ?_
  rintro ds d ⟨N, a0, a1, r, rfl, hF, rfl⟩ hok
  clear hok
  refine ⟨rfl, ?_⟩
  show vc _ _ _ _ ⟨[(0, .dat (iN a0)), (1, .dat (iN a1))], []⟩ _
  unfold f119 at hF
 case' g4 =>
  refine pure_of_vc (c := mkCtx tyTree [(61, true, lendPg [[0]] G61)]) rfl tyOK (ctx_lend (callable Tryz.func61 rfl rfl) P61 (ctx_nil)) [[0]] 1 Tryz.func107 rfl rfl (by decide) (by kernel_rfl) ?_
  rintro ds d ⟨N, a0, r, rfl, hF, rfl⟩ hok
  clear hok
  refine ⟨rfl, ?_⟩
  show vc _ _ _ _ ⟨[(0, .dat (strN a0))], []⟩ _
  unfold f107 at hF
 case' g5 =>
  intro P116
  refine pure_of_vc (c := mkCtx tyTree [(142, false, inlPg (mkCtx tyTree [(165, false, inlPg (mkCtx tyTree [(174, false, inlPg (mkCtx tyTree [(117, true, lendPg [[0], [0], [0]] G117)]) Tryz.f174)]) Tryz.f165)]) Tryz.f142), (116, true, lendPg [[1]] G116)]) rfl tyOK (ctx_eff (callable Tryz.func142 rfl rfl) (CallOK.inl rfl tyOK (ctx_eff (callable Tryz.func165 rfl rfl) (CallOK.inl rfl tyOK (ctx_eff (callable Tryz.func174 rfl rfl) (CallOK.inl rfl tyOK (ctx_lend (callable Tryz.func117 rfl rfl) P117 (ctx_nil)) Tryz.func174 (by kernel_rfl)) (ctx_nil)) Tryz.func165 (by kernel_rfl)) (ctx_nil)) Tryz.func142 (by kernel_rfl)) (ctx_lend (callable Tryz.func116 rfl rfl) P116 (ctx_nil))) [[0]] 2 Tryz.func158 rfl rfl (by decide) (by kernel_rfl) ?_
  rintro ds d ⟨N, a0, a1, r, rfl, hF, rfl⟩ hok
  clear hok
  refine ⟨rfl, ?_⟩
  show vc _ _ _ _ ⟨[(0, .dat (sl_sl_iN a0)), (1, .dat (sl_iN a1))], []⟩ _
  unfold f158 at hF
 case' g6 =>
  intro P119
  refine pure_of_vc (c := mkCtx tyTree [(119, true, purePg [[0], [0]] G119)]) rfl tyOK (ctx_cons (callable Tryz.func119 rfl rfl) P119 (ctx_nil)) [[1]] 0 Tryz.func84 rfl rfl (by decide) (by kernel_rfl) ?_
  rintro ds d ⟨N, r, rfl, hF, rfl⟩ hok
  clear hok
  refine ⟨rfl, ?_⟩
  show vc _ _ _ _ ⟨[], []⟩ _
  unfold f84 at hF
 case' g7 =>
  intro N
  refine Nat.rec (motive := λ N => CallOK Tryz.prog 32 (effPg Spf32 (H32 N))) ?_ (λ N ih => ?_) N
  .exact eff_none λ x y h => (by cases (show (none : Option (Int × ByteArray × Int)) = some y from h))
  refine eff_of_vc (c := mkCtx tyTree [(32, true, effPg Spf32 (H32 N)), (53, false, inlPg (mkCtx tyTree []) Tryz.f53), (61, true, lendPg [[0]] G61)]) rfl tyOK (ctx_effL (callable Tryz.func32 rfl rfl) ih (ctx_eff (callable Tryz.func53 rfl rfl) (CallOK.inl rfl tyOK (ctx_nil) Tryz.func53 (by kernel_rfl)) (ctx_lend (callable Tryz.func61 rfl rfl) P61 (ctx_nil)))) 1000 Srf32 Sr0f32 Tryz.func32 rfl rfl (by kernel_rfl) rfl rfl rfl rfl rfl rfl rfl rfl (λ _ => rfl) (λ _ => rfl) (λ _ _ => ⟨rfl, rfl⟩) ?_
  rintro ⟨s0, s1, s2, s3, s4⟩ y hF
  have hF : f32b (f32 N) N s0 s1 s2 s3 s4 = some y := hF
  show vc _ _ _ _ ⟨[(0, .ptr 0 0), (1, .dat (strN s0))], [(0, .box [.ptr 1 0, .rs 2 (List.length s1)]), (1, .box [.mp 3, .mp 4, .mp 5]), (2, .row 9 1 (List.map strN s1)), (3, .fam [4] (encF strN StoneM.m s2) []), (4, .fam [] (encF strN EditionM.m s3) []), (5, .mp (encM strN bN s4))]⟩ _
  unfold f32b at hF
 case' g8 =>
  intro N
  refine Nat.rec (motive := λ N => CallOK Tryz.prog 33 (effPg Spf33 (H33 N))) ?_ (λ N ih => ?_) N
  .exact eff_none λ x y h => (by cases (show (none : Option ((List Int) × Int)) = some y from h))
  refine eff_of_vc (c := mkCtx tyTree [(33, true, effPg Spf33 (H33 N)), (63, false, inlPg (mkCtx tyTree []) Tryz.f63), (62, false, inlPg (mkCtx tyTree [(53, false, inlPg (mkCtx tyTree []) Tryz.f53), (61, true, lendPg [[0]] G61)]) Tryz.f62)]) rfl tyOK (ctx_effL (callable Tryz.func33 rfl rfl) ih (ctx_eff (callable Tryz.func63 rfl rfl) (CallOK.inl rfl tyOK (ctx_nil) Tryz.func63 (by kernel_rfl)) (ctx_eff (callable Tryz.func62 rfl rfl) (CallOK.inl rfl tyOK (ctx_eff (callable Tryz.func53 rfl rfl) (CallOK.inl rfl tyOK (ctx_nil) Tryz.func53 (by kernel_rfl)) (ctx_lend (callable Tryz.func61 rfl rfl) P61 (ctx_nil))) Tryz.func62 (by kernel_rfl)) (ctx_nil)))) 1000 Srf33 Sr0f33 Tryz.func33 rfl rfl (by kernel_rfl) rfl rfl rfl rfl rfl rfl rfl rfl (λ _ => rfl) (λ _ => rfl) (λ _ _ => ⟨rfl, rfl⟩) ?_
  rintro ⟨s0, s1, s2, s3, s4⟩ y hF
  have hF : f33b (f33 N) N s0 s1 s2 s3 s4 = some y := hF
  show vc _ _ _ _ ⟨[(0, .ptr 0 0), (1, .dat (strN s0))], [(0, .box [.ptr 1 0, .rs 2 (List.length s1)]), (1, .box [.mp 3, .mp 4, .mp 5]), (2, .row 9 1 (List.map strN s1)), (3, .fam [4] (encF strN StoneM.m s2) []), (4, .fam [] (encF strN EditionM.m s3) []), (5, .mp (encM strN bN s4))]⟩ _
  unfold f33b at hF
 case' g9 =>
  intro N
  refine Nat.rec (motive := λ N => CallOK Tryz.prog 34 (effPg Spf34 (H34 N))) ?_ (λ N ih => ?_) N
  .exact eff_none λ x y h => (by cases (show (none : Option (Tally × Int)) = some y from h))
  refine eff_of_vc (c := mkCtx tyTree [(34, true, effPg Spf34 (H34 N)), (62, false, inlPg (mkCtx tyTree [(53, false, inlPg (mkCtx tyTree []) Tryz.f53), (61, true, lendPg [[0]] G61)]) Tryz.f62), (64, true, lendPg [[0], [0]] G64)]) rfl tyOK (ctx_effL (callable Tryz.func34 rfl rfl) ih (ctx_eff (callable Tryz.func62 rfl rfl) (CallOK.inl rfl tyOK (ctx_eff (callable Tryz.func53 rfl rfl) (CallOK.inl rfl tyOK (ctx_nil) Tryz.func53 (by kernel_rfl)) (ctx_lend (callable Tryz.func61 rfl rfl) P61 (ctx_nil))) Tryz.func62 (by kernel_rfl)) (ctx_lend (callable Tryz.func64 rfl rfl) P64 (ctx_nil)))) 1000 Srf34 Sr0f34 Tryz.func34 rfl rfl (by kernel_rfl) rfl rfl rfl rfl rfl rfl rfl rfl (λ _ => rfl) (λ _ => rfl) (λ _ _ => ⟨rfl, rfl⟩) ?_
  rintro ⟨s0, s1, s2, s3, s4⟩ y hF
  have hF : f34b (f34 N) N s0 s1 s2 s3 s4 = some y := hF
  show vc _ _ _ _ ⟨[(0, .ptr 0 0), (1, .dat (strN s0))], [(0, .box [.ptr 1 0, .rs 2 (List.length s1)]), (1, .box [.mp 3, .mp 4, .mp 5]), (2, .row 9 1 (List.map strN s1)), (3, .fam [4] (encF strN StoneM.m s2) []), (4, .fam [] (encF strN EditionM.m s3) []), (5, .mp (encM strN bN s4))]⟩ _
  unfold f34b at hF
 case' g10 =>
  intro N
  refine Nat.rec (motive := λ N => CallOK Tryz.prog 36 (effPg Spf36 (H36 N))) ?_ (λ N ih => ?_) N
  .exact eff_none λ x y h => (by cases (show (none : Option (Int × Int)) = some y from h))
  refine eff_of_vc (c := mkCtx tyTree [(36, true, effPg Spf36 (H36 N)), (62, false, inlPg (mkCtx tyTree [(53, false, inlPg (mkCtx tyTree []) Tryz.f53), (61, true, lendPg [[0]] G61)]) Tryz.f62), (53, false, inlPg (mkCtx tyTree []) Tryz.f53), (61, true, lendPg [[0]] G61)]) rfl tyOK (ctx_effL (callable Tryz.func36 rfl rfl) ih (ctx_eff (callable Tryz.func62 rfl rfl) (CallOK.inl rfl tyOK (ctx_eff (callable Tryz.func53 rfl rfl) (CallOK.inl rfl tyOK (ctx_nil) Tryz.func53 (by kernel_rfl)) (ctx_lend (callable Tryz.func61 rfl rfl) P61 (ctx_nil))) Tryz.func62 (by kernel_rfl)) (ctx_eff (callable Tryz.func53 rfl rfl) (CallOK.inl rfl tyOK (ctx_nil) Tryz.func53 (by kernel_rfl)) (ctx_lend (callable Tryz.func61 rfl rfl) P61 (ctx_nil))))) 1000 Srf36 Sr0f36 Tryz.func36 rfl rfl (by kernel_rfl) rfl rfl rfl rfl rfl rfl rfl rfl (λ _ => rfl) (λ _ => rfl) (λ _ _ => ⟨rfl, rfl⟩) ?_
  rintro ⟨s0, s1, s2, s3, s4, s5⟩ y hF
  have hF : f36b (f36 N) N s0 s1 s2 s3 s4 s5 = some y := hF
  show vc _ _ _ _ ⟨[(0, .ptr 0 0), (1, .dat (strN s0)), (2, .dat (strN s1))], [(0, .box [.ptr 1 0, .rs 2 (List.length s2)]), (1, .box [.mp 3, .mp 4, .mp 5]), (2, .row 9 1 (List.map strN s2)), (3, .fam [4] (encF strN StoneM.m s3) []), (4, .fam [] (encF strN EditionM.m s4) []), (5, .mp (encM strN bN s5))]⟩ _
  unfold f36b at hF
 case' g11 =>
  intro N
  refine Nat.rec (motive := λ N => CallOK Tryz.prog 40 (effPg Spf40 (H40 N))) ?_ (λ N ih => ?_) N
  .exact eff_none λ x y h => (by cases (show (none : Option (Int × Int)) = some y from h))
  refine eff_of_vc (c := mkCtx tyTree [(40, true, effPg Spf40 (H40 N)), (62, false, inlPg (mkCtx tyTree [(53, false, inlPg (mkCtx tyTree []) Tryz.f53), (61, true, lendPg [[0]] G61)]) Tryz.f62), (64, true, lendPg [[0], [0]] G64)]) rfl tyOK (ctx_effL (callable Tryz.func40 rfl rfl) ih (ctx_eff (callable Tryz.func62 rfl rfl) (CallOK.inl rfl tyOK (ctx_eff (callable Tryz.func53 rfl rfl) (CallOK.inl rfl tyOK (ctx_nil) Tryz.func53 (by kernel_rfl)) (ctx_lend (callable Tryz.func61 rfl rfl) P61 (ctx_nil))) Tryz.func62 (by kernel_rfl)) (ctx_lend (callable Tryz.func64 rfl rfl) P64 (ctx_nil)))) 1000 Srf40 Sr0f40 Tryz.func40 rfl rfl (by kernel_rfl) rfl rfl rfl rfl rfl rfl rfl rfl (λ _ => rfl) (λ _ => rfl) (λ _ _ => ⟨rfl, rfl⟩) ?_
  rintro ⟨s0, s1, s2, s3, s4⟩ y hF
  have hF : f40b (f40 N) N s0 s1 s2 s3 s4 = some y := hF
  show vc _ _ _ _ ⟨[(0, .ptr 0 0), (1, .dat (strN s0))], [(0, .box [.ptr 1 0, .rs 2 (List.length s1)]), (1, .box [.mp 3, .mp 4, .mp 5]), (2, .row 9 1 (List.map strN s1)), (3, .fam [4] (encF strN StoneM.m s2) []), (4, .fam [] (encF strN EditionM.m s3) []), (5, .mp (encM strN bN s4))]⟩ _
  unfold f40b at hF
 case' g12 =>
  intro P107
  refine pure_of_vc (c := mkCtx tyTree [(106, false, inlPg (mkCtx tyTree [(138, false, inlPg (mkCtx tyTree [(107, true, lendPg [[0]] G107)]) Tryz.f138)]) Tryz.f106), (108, true, purePg [[1], [0, 0]] G108), (105, true, lendPg [[0]] G105), (104, true, purePg [[0]] G104)]) rfl tyOK (ctx_eff (callable Tryz.func106 rfl rfl) (CallOK.inl rfl tyOK (ctx_eff (callable Tryz.func138 rfl rfl) (CallOK.inl rfl tyOK (ctx_lend (callable Tryz.func107 rfl rfl) P107 (ctx_nil)) Tryz.func138 (by kernel_rfl)) (ctx_nil)) Tryz.func106 (by kernel_rfl)) (ctx_cons (callable Tryz.func108 rfl rfl) P108 (ctx_lend (callable Tryz.func105 rfl rfl) P105 (ctx_cons (callable Tryz.func104 rfl rfl) P104 (ctx_nil))))) [[0], [0]] 1 Tryz.func79 rfl rfl (by decide) (by kernel_rfl) ?_
  rintro ds d ⟨N, a0, r, rfl, hF, rfl⟩ hok
  clear hok
  refine ⟨rfl, ?_⟩
  show vc _ _ _ _ ⟨[(0, .dat (strN a0))], []⟩ _
  unfold f79 at hF
 case' g13 =>
  intro P158
  refine pure_of_vc (c := mkCtx tyTree [(158, true, lendPg [[1], [1]] G158), (132, true, lendPg [[1], [0], [1]] G132)]) rfl tyOK (ctx_lend (callable Tryz.func158 rfl rfl) P158 (ctx_lend (callable Tryz.func132 rfl rfl) P132 (ctx_nil))) [[0], [0]] 2 Tryz.func146 rfl rfl (by decide) (by kernel_rfl) ?_
  rintro ds d ⟨N, a0, a1, r, rfl, hF, rfl⟩ hok
  clear hok
  refine ⟨rfl, ?_⟩
  show vc _ _ _ _ ⟨[(0, .dat (sl_sl_iN a0)), (1, .dat (sl_iN a1))], []⟩ _
  unfold f146 at hF
 case' g14 =>
  intro P158 P116
  refine pure_of_vc (c := mkCtx tyTree [(158, true, lendPg [[1], [1]] G158), (116, true, lendPg [[1]] G116)]) rfl tyOK (ctx_lend (callable Tryz.func158 rfl rfl) P158 (ctx_lend (callable Tryz.func116 rfl rfl) P116 (ctx_nil))) [[0]] 2 Tryz.func131 rfl rfl (by decide) (by kernel_rfl) ?_
  rintro ds d ⟨N, a0, a1, r, rfl, hF, rfl⟩ hok
  clear hok
  refine ⟨rfl, ?_⟩
  show vc _ _ _ _ ⟨[(0, .dat (sl_sl_iN a0)), (1, .dat (sl_iN a1))], []⟩ _
  unfold f131 at hF
 case' g15 =>
  intro P215 P79
  intro N
  refine Nat.rec (motive := λ N => CallOK Tryz.prog 51 (effPg Spf51 (H51 N))) ?_ (λ N ih => ?_) N
  .exact eff_none λ x y h => (by cases (show (none : Option (I97 × Int)) = some y from h))
  refine eff_of_vc (c := mkCtx tyTree [(51, true, effPg Spf51 (H51 N)), (53, false, inlPg (mkCtx tyTree []) Tryz.f53), (215, true, effPg Spf215 G215), (212, true, effPg Spf212 G212), (210, true, effPg Spf210 G210), (208, true, effPg Spf208 G208), (206, true, effPg Spf206 G206), (204, true, effPg Spf204 G204), (202, true, effPg Spf202 G202), (200, true, effPg Spf200 G200), (198, true, effPg Spf198 G198), (79, true, purePg [[0]] G79)]) rfl tyOK (ctx_effL (callable Tryz.func51 rfl rfl) ih (ctx_eff (callable Tryz.func53 rfl rfl) (CallOK.inl rfl tyOK (ctx_nil) Tryz.func53 (by kernel_rfl)) (ctx_effL (callable Tryz.func215 rfl rfl) P215 (ctx_effL (callable Tryz.func212 rfl rfl) P212 (ctx_effL (callable Tryz.func210 rfl rfl) P210 (ctx_effL (callable Tryz.func208 rfl rfl) P208 (ctx_effL (callable Tryz.func206 rfl rfl) P206 (ctx_effL (callable Tryz.func204 rfl rfl) P204 (ctx_effL (callable Tryz.func202 rfl rfl) P202 (ctx_effL (callable Tryz.func200 rfl rfl) P200 (ctx_effL (callable Tryz.func198 rfl rfl) P198 (ctx_cons (callable Tryz.func79 rfl rfl) P79 (ctx_nil))))))))))))) 1000 Srf51 Sr0f51 Tryz.func51 rfl rfl (by kernel_rfl) rfl rfl rfl rfl rfl rfl rfl rfl (λ _ => rfl) (λ _ => rfl) (λ _ _ => ⟨rfl, rfl⟩) ?_
  rintro ⟨s0, s1, s2, s3, s4⟩ y hF
  have hF : f51b (f51 N) N s0 s1 s2 s3 s4 = some y := hF
  show vc _ _ _ _ ⟨[(0, .ptr 0 0), (1, .dat (strN s0))], [(0, .box [.ptr 1 0, .rs 2 (List.length s1)]), (1, .box [.mp 3, .mp 4, .mp 5]), (2, .row 9 1 (List.map strN s1)), (3, .fam [4] (encF strN StoneM.m s2) []), (4, .fam [] (encF strN EditionM.m s3) []), (5, .mp (encM strN bN s4))]⟩ _
  unfold f51b at hF
 case' g16 =>
  intro P146
  refine pure_of_vc (c := mkCtx tyTree [(147, true, lendPg [[1], [0]] G147), (146, true, lendPg [[1], [1]] G146)]) rfl tyOK (ctx_lend (callable Tryz.func147 rfl rfl) P147 (ctx_lend (callable Tryz.func146 rfl rfl) P146 (ctx_nil))) [[0], [0]] 2 Tryz.func118 rfl rfl (by decide) (by kernel_rfl) ?_
  rintro ds d ⟨N, a0, a1, r, rfl, hF, rfl⟩ hok
  clear hok
  refine ⟨rfl, ?_⟩
  show vc _ _ _ _ ⟨[(0, .dat (sl_sl_iN a0)), (1, .dat (sl_iN a1))], []⟩ _
  unfold f118 at hF
 case' g17 =>
  intro P131
  refine pure_of_vc (c := mkCtx tyTree [(132, true, lendPg [[1], [0], [1]] G132), (131, true, lendPg [[1], [1]] G131)]) rfl tyOK (ctx_lend (callable Tryz.func132 rfl rfl) P132 (ctx_lend (callable Tryz.func131 rfl rfl) P131 (ctx_nil))) [[0]] 2 Tryz.func101 rfl rfl (by decide) (by kernel_rfl) ?_
  rintro ds d ⟨N, a0, a1, r, rfl, hF, rfl⟩ hok
  clear hok
  refine ⟨rfl, ?_⟩
  show vc _ _ _ _ ⟨[(0, .dat (sl_sl_iN a0)), (1, .dat (sl_iN a1))], []⟩ _
  unfold f101 at hF
 case' g18 =>
  intro P51
  intro N
  refine Nat.rec (motive := λ N => CallOK Tryz.prog 17 (effPg Spf17 (H17 N))) ?_ (λ N ih => ?_) N
  .exact eff_none λ x y h => (by cases (show (none : Option (Int)) = some y from h))
  refine eff_of_vc (c := mkCtx tyTree [(17, true, effPg Spf17 (H17 N)), (51, true, effPg Spf51 G51)]) rfl tyOK (ctx_effL (callable Tryz.func17 rfl rfl) ih (ctx_effL (callable Tryz.func51 rfl rfl) P51 (ctx_nil))) 1000 Srf17 Sr0f17 Tryz.func17 rfl rfl (by kernel_rfl) rfl rfl rfl rfl rfl rfl rfl rfl (λ _ => rfl) (λ _ => rfl) (λ _ _ => ⟨rfl, rfl⟩) ?_
  rintro ⟨s0, s1, s2, s3, s4⟩ y hF
  have hF : f17b (f17 N) N s0 s1 s2 s3 s4 = some y := hF
  show vc _ _ _ _ ⟨[(0, .ptr 0 0), (1, .dat (strN s0))], [(0, .box [.ptr 1 0, .rs 2 (List.length s1)]), (1, .box [.mp 3, .mp 4, .mp 5]), (2, .row 9 1 (List.map strN s1)), (3, .fam [4] (encF strN StoneM.m s2) []), (4, .fam [] (encF strN EditionM.m s3) []), (5, .mp (encM strN bN s4))]⟩ _
  unfold f17b at hF
 case' g19 =>
  intro P211 P51
  intro N
  refine Nat.rec (motive := λ N => CallOK Tryz.prog 18 (effPg Spf18 (H18 N))) ?_ (λ N ih => ?_) N
  .exact eff_none λ x y h => (by cases (show (none : Option (Int × LS × LE × LC × LB)) = some y from h))
  refine eff_of_vc (c := mkCtx tyTree [(18, true, effPg Spf18 (H18 N)), (214, true, effPg Spf214 G214), (211, true, effPg Spf211 G211), (209, true, effPg Spf209 G209), (207, true, effPg Spf207 G207), (205, true, effPg Spf205 G205), (203, true, effPg Spf203 G203), (201, true, effPg Spf201 G201), (199, true, effPg Spf199 G199), (197, true, effPg Spf197 G197), (51, true, effPg Spf51 G51)]) rfl tyOK (ctx_effL (callable Tryz.func18 rfl rfl) ih (ctx_effL (callable Tryz.func214 rfl rfl) P214 (ctx_effL (callable Tryz.func211 rfl rfl) P211 (ctx_effL (callable Tryz.func209 rfl rfl) P209 (ctx_effL (callable Tryz.func207 rfl rfl) P207 (ctx_effL (callable Tryz.func205 rfl rfl) P205 (ctx_effL (callable Tryz.func203 rfl rfl) P203 (ctx_effL (callable Tryz.func201 rfl rfl) P201 (ctx_effL (callable Tryz.func199 rfl rfl) P199 (ctx_effL (callable Tryz.func197 rfl rfl) P197 (ctx_effL (callable Tryz.func51 rfl rfl) P51 (ctx_nil)))))))))))) 1000 Srf18 Sr0f18 Tryz.func18 rfl rfl (by kernel_rfl) rfl rfl rfl rfl rfl rfl rfl rfl (λ _ => rfl) (λ _ => rfl) (λ _ _ => ⟨rfl, rfl⟩) ?_
  rintro ⟨s0, s1, s2, s3, s4⟩ y hF
  have hF : f18b (f18 N) N s0 s1 s2 s3 s4 = some y := hF
  show vc _ _ _ _ ⟨[(0, .ptr 0 0), (1, .dat (strN s0))], [(0, .box [.ptr 1 0, .rs 2 (List.length s1)]), (1, .box [.mp 3, .mp 4, .mp 5]), (2, .row 9 1 (List.map strN s1)), (3, .fam [4] (encF strN StoneM.m s2) []), (4, .fam [] (encF strN EditionM.m s3) []), (5, .mp (encM strN bN s4))]⟩ _
  unfold f18b at hF
 case' g20 =>
  intro P118 P116
  refine pure_of_vc (c := mkCtx tyTree [(118, true, lendPg [[1], [1]] G118), (117, true, lendPg [[0], [0], [0]] G117), (116, true, lendPg [[1]] G116)]) rfl tyOK (ctx_lend (callable Tryz.func118 rfl rfl) P118 (ctx_lend (callable Tryz.func117 rfl rfl) P117 (ctx_lend (callable Tryz.func116 rfl rfl) P116 (ctx_nil)))) [[1], [0]] 3 Tryz.func83 rfl rfl (by decide) (by kernel_rfl) ?_
  rintro ds d ⟨N, a0, a1, a2, r, rfl, hF, rfl⟩ hok
  clear hok
  refine ⟨rfl, ?_⟩
  show vc _ _ _ _ ⟨[(0, .dat (sl_sl_iN a0)), (1, .dat (iN a1)), (2, .dat (iN a2))], []⟩ _
  unfold f83 at hF
 case' g21 =>
  intro P84 P83
  refine pure_of_vc (c := mkCtx tyTree [(85, false, inlPg (mkCtx tyTree [(82, true, copyPg 106)]) Tryz.f85), (58, false, inlPg (mkCtx tyTree []) Tryz.f58), (84, true, purePg [] G84), (83, true, purePg [[1], [0], [0]] G83)]) rfl tyOK (ctx_eff (callable Tryz.func85 rfl rfl) (CallOK.inl rfl tyOK (ctx_copy (callable Tryz.func82 rfl rfl) (ctx_nil)) Tryz.func85 (by kernel_rfl)) (ctx_eff (callable Tryz.func58 rfl rfl) (CallOK.inl rfl tyOK (ctx_nil) Tryz.func58 (by kernel_rfl)) (ctx_cons (callable Tryz.func84 rfl rfl) P84 (ctx_cons (callable Tryz.func83 rfl rfl) P83 (ctx_nil))))) [[0]] 1 Tryz.func57 rfl rfl (by decide) (by kernel_rfl) ?_
  rintro ds d ⟨N, a0, r, rfl, hF, rfl⟩ hok
  clear hok
  refine ⟨rfl, ?_⟩
  show vc _ _ _ _ ⟨[(0, .dat (strN a0))], []⟩ _
  unfold f57 at hF
 case' g22 =>
  intro P57
  intro N
  refine Nat.rec (motive := λ N => CallOK Tryz.prog 23 (effPg Spf23 (H23 N))) ?_ (λ N ih => ?_) N
  .exact eff_none λ x y h => (by cases (show (none : Option (ByteArray)) = some y from h))
  refine eff_of_vc (c := mkCtx tyTree [(23, true, effPg Spf23 (H23 N)), (58, false, inlPg (mkCtx tyTree []) Tryz.f58), (56, false, inlPg (mkCtx tyTree [(82, true, copyPg 106)]) Tryz.f56), (53, false, inlPg (mkCtx tyTree []) Tryz.f53), (57, true, lendPg [[0]] G57), (30, true, lendPg [[0]] G30)]) rfl tyOK (ctx_effL (callable Tryz.func23 rfl rfl) ih (ctx_eff (callable Tryz.func58 rfl rfl) (CallOK.inl rfl tyOK (ctx_nil) Tryz.func58 (by kernel_rfl)) (ctx_eff (callable Tryz.func56 rfl rfl) (CallOK.inl rfl tyOK (ctx_copy (callable Tryz.func82 rfl rfl) (ctx_nil)) Tryz.func56 (by kernel_rfl)) (ctx_eff (callable Tryz.func53 rfl rfl) (CallOK.inl rfl tyOK (ctx_nil) Tryz.func53 (by kernel_rfl)) (ctx_lend (callable Tryz.func57 rfl rfl) P57 (ctx_lend (callable Tryz.func30 rfl rfl) P30 (ctx_nil))))))) 1000 Srf23 Sr0f23 Tryz.func23 rfl rfl (by kernel_rfl) rfl rfl rfl rfl rfl rfl rfl rfl (λ _ => rfl) (λ _ => rfl) (λ _ _ => ⟨rfl, rfl⟩) ?_
  rintro ⟨s0, s1, s2, s3⟩ y hF
  have hF : f23b (f23 N) N s0 s1 s2 s3 = some y := hF
  show vc _ _ _ _ ⟨[(0, .ptr 0 0)], [(0, .box [.ptr 1 0, .rs 2 (List.length s0)]), (1, .box [.mp 3, .mp 4, .mp 5]), (2, .row 9 1 (List.map strN s0)), (3, .fam [4] (encF strN StoneM.m s1) []), (4, .fam [] (encF strN EditionM.m s2) []), (5, .mp (encM strN bN s3))]⟩ _
  unfold f23b at hF
 case' g23 =>
  intro P101 P84 P57
  refine pure_of_vc (c := mkCtx tyTree [(101, true, lendPg [[1], [1]] G101), (100, true, lendPg [[0], [0]] G100), (84, true, purePg [] G84), (57, true, lendPg [[0]] G57)]) rfl tyOK (ctx_lend (callable Tryz.func101 rfl rfl) P101 (ctx_lend (callable Tryz.func100 rfl rfl) P100 (ctx_cons (callable Tryz.func84 rfl rfl) P84 (ctx_lend (callable Tryz.func57 rfl rfl) P57 (ctx_nil))))) [[0], [0]] 1 Tryz.func75 rfl rfl (by decide) (by kernel_rfl) ?_
  rintro ds d ⟨N, a0, r, rfl, hF, rfl⟩ hok
  clear hok
  refine ⟨rfl, ?_⟩
  show vc _ _ _ _ ⟨[(0, .dat (strN a0))], []⟩ _
  unfold f75 at hF
 case' g24 =>
  intro P40 P36 P34 P33 P32 P23 P18 P17
  refine pure_of_vc (c := mkCtx tyTree [(15, false, inlPg (mkCtx tyTree []) Tryz.f15), (40, true, effPg Spf40 G40), (36, true, effPg Spf36 G36), (34, true, effPg Spf34 G34), (33, true, effPg Spf33 G33), (32, true, effPg Spf32 G32), (23, true, effPg Spf23 G23), (18, true, effPg Spf18 G18), (17, true, effPg Spf17 G17), (44, true, purePg [] G44), (35, true, lendPg [[1], [1]] G35)]) rfl tyOK (ctx_eff (callable Tryz.func15 rfl rfl) (CallOK.inl rfl tyOK (ctx_nil) Tryz.func15 (by kernel_rfl)) (ctx_effL (callable Tryz.func40 rfl rfl) P40 (ctx_effL (callable Tryz.func36 rfl rfl) P36 (ctx_effL (callable Tryz.func34 rfl rfl) P34 (ctx_effL (callable Tryz.func33 rfl rfl) P33 (ctx_effL (callable Tryz.func32 rfl rfl) P32 (ctx_effL (callable Tryz.func23 rfl rfl) P23 (ctx_effL (callable Tryz.func18 rfl rfl) P18 (ctx_effL (callable Tryz.func17 rfl rfl) P17 (ctx_cons (callable Tryz.func44 rfl rfl) P44 (ctx_lend (callable Tryz.func35 rfl rfl) P35 (ctx_nil)))))))))))) [[0]] 0 Tryz.func14 rfl rfl (by decide) (by kernel_rfl) ?_
  rintro ds d ⟨N, r, rfl, hF, rfl⟩ hok
  clear hok
  refine ⟨rfl, ?_⟩
  show vc _ _ _ _ ⟨[], []⟩ _
  unfold f14 at hF
 case' g25 =>
  intro P18 P75 P36 P34 P32 P14
  refine pure_of_vc (c := mkCtx tyTree [(42, false, inlPg (mkCtx tyTree [(15, false, inlPg (mkCtx tyTree []) Tryz.f15), (18, true, effPg Spf18 G18), (75, true, lendPg [[0]] G75), (74, true, lendPg [[0], [0]] G74), (73, true, purePg [[0], [0]] G73), (72, true, lendPg [[0], [0]] G72), (30, true, lendPg [[0]] G30)]) Tryz.f42), (25, false, inlPg (mkCtx tyTree [(15, false, inlPg (mkCtx tyTree []) Tryz.f15), (18, true, effPg Spf18 G18)]) Tryz.f25), (36, true, effPg Spf36 G36), (34, true, effPg Spf34 G34), (32, true, effPg Spf32 G32), (21, true, effPg Spf21 G21), (44, true, purePg [] G44), (14, true, lendPg [] G14)]) rfl tyOK (ctx_eff (callable Tryz.func42 rfl rfl) (CallOK.inl rfl tyOK (ctx_eff (callable Tryz.func15 rfl rfl) (CallOK.inl rfl tyOK (ctx_nil) Tryz.func15 (by kernel_rfl)) (ctx_effL (callable Tryz.func18 rfl rfl) P18 (ctx_lend (callable Tryz.func75 rfl rfl) P75 (ctx_lend (callable Tryz.func74 rfl rfl) P74 (ctx_cons (callable Tryz.func73 rfl rfl) P73 (ctx_lend (callable Tryz.func72 rfl rfl) P72 (ctx_lend (callable Tryz.func30 rfl rfl) P30 (ctx_nil)))))))) Tryz.func42 (by kernel_rfl)) (ctx_eff (callable Tryz.func25 rfl rfl) (CallOK.inl rfl tyOK (ctx_eff (callable Tryz.func15 rfl rfl) (CallOK.inl rfl tyOK (ctx_nil) Tryz.func15 (by kernel_rfl)) (ctx_effL (callable Tryz.func18 rfl rfl) P18 (ctx_nil))) Tryz.func25 (by kernel_rfl)) (ctx_effL (callable Tryz.func36 rfl rfl) P36 (ctx_effL (callable Tryz.func34 rfl rfl) P34 (ctx_effL (callable Tryz.func32 rfl rfl) P32 (ctx_effL (callable Tryz.func21 rfl rfl) P21 (ctx_cons (callable Tryz.func44 rfl rfl) P44 (ctx_lend (callable Tryz.func14 rfl rfl) P14 (ctx_nil))))))))) [[0]] 0 Tryz.func10 rfl rfl (by decide) (by kernel_rfl) ?_
  rintro ds d ⟨N, r, rfl, hF, rfl⟩ hok
  clear hok
  refine ⟨rfl, ?_⟩
  show vc _ _ _ _ ⟨[], []⟩ _
  unfold f10 at hF
 all_goals (repeat' (first
  | ((with_reducible first | refine q0 _ _ ?_ | refine q1 _ _ _ _ ?_ | refine q2 _ _ _ ?_); clear Q q0 q1 q2)
  | ((with_reducible first | refine seq_op ?hx (λ Q q0 q1 q2 => ?_) | refine draw_op ?hx (λ Q q0 q1 q2 => ?_) | refine seq_op0 ?hx (λ Q q0 q1 q2 => ?_) | refine draw_op0 ?hx (λ Q q0 q1 q2 => ?_)); (case hx => exact rfl); conv => whnf)
  | ((with_reducible first | refine seq_off ?hx ?_ | refine seq_off0 ?hx ?_ | refine draw_off ?hx ?_ | refine draw_off0 ?hx ?_ | refine k_blk_out ?hx ?_ | refine vc_condT ?hx ?_); (case hx => exact rfl))
  | ((refine seq_nilM 2 1203 hF rfl rfl rfl (by first | exact isOut_nil | exact isOut_ne (by decide) isOut_nil) (by assumption) (by exact rfl) (by exact rfl) (λ q hq hF1 => ?_)); clear hF; (have hF := hF1); clear hF1; dsimp only [St.settledF]; (first | ((with_reducible refine hR _ ?_); clear R hR) | ((with_reducible refine hL _ ?_); clear L hL)))
  | ((with_reducible refine seq_id ?_); (first | ((first | refine seq_opK rfl ?hy (λ Q q0 q1 q2 => ?_) | refine seq_opK0 rfl ?hy (λ Q q0 q1 q2 => ?_)); (case hy => first | assumption | exact notT (by assumption) | exact rfl); conv => whnf) | ((first | refine seq_offK rfl ?hy ?_ | refine seq_offK0 rfl ?hy ?_); (case hy => first | assumption | exact notF (by assumption) | exact rfl)) | (revert hF; (with_reducible first | refine seq_opF ?hx ?_ ?_ | refine seq_opF0 ?hx ?_ ?_); (case hx => exact rfl); (intro hc hF Q q0 q1 q2; conv => whnf); rotate_left; (intro hc hF); rotate_right) | (revert hF; (with_reducible first | refine seq_opN ?hx ?_ ?_ | refine seq_opN0 ?hx ?_ ?_); (case hx => exact rfl); (intro hc hF); rotate_left; (intro hc hF Q q0 q1 q2; conv => whnf); rotate_right)))
  | ((refine seq_nilR 2 1501 hF rfl rfl rfl (by first | exact isOut_nil | exact isOut_ne (by decide) isOut_nil) (by assumption) (by exact rfl) (by first | exact rfl | assumption | (symm; assumption) | omega) (by exact rfl) (λ q hq hF1 => ?_)); clear hF; (have hF := hF1); clear hF1; dsimp only [St.settledF]; (first | ((with_reducible refine hR _ ?_); clear R hR) | ((with_reducible refine hL _ ?_); clear L hL)))
  | ((with_reducible refine cond_id ?_); (first | ((refine condKT rfl ?hy ?_); (case hy => first | assumption | exact notT (by assumption) | exact rfl)) | ((refine condKF rfl ?hy ?_); (case hy => first | assumption | exact notF (by assumption) | exact rfl)) | (revert hF; (with_reducible refine condF ?hx ?_ ?_); (case hx => exact rfl); all_goals (intro hc hF))))
  | ((with_reducible have hG := unit_fact hF); (refine seq_nilR0 4 1403 rfl rfl rfl (by first | exact isOut_nil | exact isOut_ne (by decide) isOut_nil) (by assumption) (by exact rfl) ?_); (have hF := hG); clear hG; dsimp only [St.settledF]; (first | ((with_reducible refine hR _ ?_); clear R hR) | ((with_reducible refine hL _ ?_); clear L hL)))
  | ((with_reducible have hG := unit_fact hF); (refine seq_nilM0 4 1803 rfl rfl rfl (by first | exact isOut_nil | exact isOut_ne (by decide) isOut_nil) (by assumption) (by exact rfl) ?_); (have hF := hG); clear hG; dsimp only [St.settledF]; (first | ((with_reducible refine hR _ ?_); clear R hR) | ((with_reducible refine hL _ ?_); clear L hL)))
  | ((with_reducible refine seq_id ?_); (refine seq_nilK 101000100 101000101 (ks := []) rfl rfl ?_); dsimp only [St.kid]; (first | ((with_reducible refine hR _ ?_); clear R hR) | ((with_reducible refine hL _ ?_); clear L hL)))
  | ((with_reducible refine seq_id ?_); (refine seq_nilK 102000101000100 102000101000101 (ks := []) rfl rfl ?_); dsimp only [St.kid]; (first | ((with_reducible refine hR _ ?_); clear R hR) | ((with_reducible refine hL _ ?_); clear L hL)))
  | ((with_reducible refine seq_id ?_); (refine seq_nilK 2201000100 2201000101 (ks := []) rfl rfl ?_); dsimp only [St.kid]; (first | ((with_reducible refine hR _ ?_); clear R hR) | ((with_reducible refine hL _ ?_); clear L hL)))
  | ((with_reducible refine seq_id ?_); (refine seq_nilK 102000101000107000801000100 102000101000107000801000101 (ks := []) rfl rfl ?_); dsimp only [St.kid]; (first | ((with_reducible refine hR _ ?_); clear R hR) | ((with_reducible refine hL _ ?_); clear L hL)))
  | ((with_reducible refine seq_nil ?_); (first | ((with_reducible refine hR _ ?_); clear R hR) | ((with_reducible refine hL _ ?_); clear L hL)))
  | ((with_reducible refine draw_nil ?_); (with_reducible refine hR _ _ ?hx ?_); (case hx => kernel_rfl); clear R hR)
  | ((with_reducible first | refine int_step ?_ | refine len_step ?_ | refine idx2 (by assumption) ?_ | refine idx3 (by assumption) ?_); conv => whnf)
  | (with_reducible first | refine vc_block ?_ | refine vc_skip ?_ | refine vc_ret ?_ | refine vc_exit ?_ | refine vc_region (λ R hR => ?_) | refine k_seq_ret ?_ | refine k_seq_exit ?_ | refine k_blk ?_ | refine k_blk_ret ?_ | refine k_blk_here ?_ | refine k_loop_ret ?_ | refine k_loop_exit ?_)
  | ((with_reducible refine vc_seqN [] ?hx ?_); (case hx => exact rfl))
  | ((with_reducible refine vc_seqN [404000103000000007, 207000103000000007, 404000103000000007] ?hx ?_); (case hx => exact rfl))
  | ((with_reducible refine vc_seqN [15, 14] ?hx ?_); (case hx => exact rfl))
  | ((with_reducible refine vc_seqN [603000103000000007] ?hx ?_); (case hx => exact rfl))
  | ((with_reducible refine vc_seqN [47, 41, 35, 3305000103000000007, 33, 23] ?hx ?_); (case hx => exact rfl))
  | ((with_reducible refine vc_seqN [1000006] ?hx ?_); (case hx => exact rfl))
  | ((with_reducible refine vc_seqN [15] ?hx ?_); (case hx => exact rfl))
  | ((with_reducible refine vc_seqN [14, 7] ?hx ?_); (case hx => exact rfl))
  | ((with_reducible refine vc_seqN [1000010] ?hx ?_); (case hx => exact rfl))
  | ((with_reducible refine vc_seqN [12] ?hx ?_); (case hx => exact rfl))
  | ((with_reducible refine vc_seqN [23, 8, 6] ?hx ?_); (case hx => exact rfl))
  | ((with_reducible refine vc_seqN [102000101000107000000018, 102000101000107000000013, 7, 102000101000107000000018, 102000101000107000000013, 6, 102000101000107000000018, 102000101000107000000013, 102000000007, 102000000005] ?hx ?_); (case hx => exact rfl))
  | (revert hF; (with_reducible refine G119.step ?hx ?_); (case hx => exact rfl); intro v hF; conv => whnf)
  | (revert hF; (with_reducible refine G146.lend ?hx ?_); (case hx => exact rfl); intro v hF; conv => whnf)
  | (revert hF; (with_reducible refine G131.lend ?hx ?_); (case hx => exact rfl); intro v hF; conv => whnf)
  | ((with_reducible refine vc_draw ?hx (λ R L hL hR => ?_)); (case hx => exact rfl))
  | (revert hF; (with_reducible refine G147.lend ?hx ?_); (case hx => exact rfl); intro v hF; conv => whnf)
  | (revert hF; (with_reducible refine G132.lend ?hx ?_); (case hx => exact rfl); intro v hF; conv => whnf)
  | (revert hF; (refine G213.step rfl rfl rfl (by assumption) (by exact rfl) (by exact rfl) ?_); (intro y hy hF); conv => whnf)
  | ((with_reducible replace hF := isE hF); (dsimp only [Lf116_i403_i404000102_c7, Lf116_i403_i404000102_2, Lf116_i206_i207000102_c7, Lf116_i403_i404000102_c7_1, Lf116_i403_i404000102_2_1, Lf116_i206_i207000102_2, f116_i403_i404000102_2, f116_i403_i404000102_2_1, f116_i206_i207000102_2, Lf119_c15, Lf119_c14, Lf119_10, Lf119_7, f119_10, f119_7, Lf158_i602_i603000102_c7, Lf158_i602_i603000102_2, f158_i602_i603000102_2, Lf79_c47, Lf79_42, Lf79_c41, Lf79_c35, Lf79_i3304_i3305000102_c7, Lf79_i3304_i3305000102_2, Lf79_c33, Lf79_27, Lf79_c23, f79_42, f79_i3304_i3305000102_2, f79_27, Lf51_c6, Lf83_c15, Lf83_10, f83_10, Lf57_c14, Lf57_10, Lf57_c7, Lf57_3, f57_10, f57_3, Lf23_c10, Lf23_6, f23_6, Lf75_c12, Lf75_6, f75_6, Lf14_c23, Lf14_c8, Lf14_c6, Lf14_4, f14_4, Lf10_i700_c18, Lf10_i700_c13, Lf10_i700_10, Lf10_c7, Lf10_i600_c18, Lf10_i600_c13, Lf10_i600_10, Lf10_c6, Lf10_i500_c18, Lf10_i500_c13, Lf10_i500_10, Lf10_i101_c7, Lf10_i101_c5, Lf10_i101_3, f10_i700_10, f10_i600_10, f10_i500_10, f10_i101_3] at hF); first | ((with_reducible replace hF := chkE (e := f116_i403_i404000102_c7 ..) hF); rewrite [f116_i403_i404000102_c7] at hF) | ((with_reducible replace hF := chkE (e := f116_i206_i207000102_c7 ..) hF); rewrite [f116_i206_i207000102_c7] at hF) | ((with_reducible replace hF := chkE (e := f116_i403_i404000102_c7_1 ..) hF); rewrite [f116_i403_i404000102_c7_1] at hF) | ((with_reducible replace hF := chkE (e := f158_i602_i603000102_c7 ..) hF); rewrite [f158_i602_i603000102_c7] at hF) | ((with_reducible replace hF := chkE (e := f79_c47 ..) hF); rewrite [f79_c47] at hF) | ((with_reducible replace hF := chkE (e := f79_c35 ..) hF); rewrite [f79_c35] at hF) | ((with_reducible replace hF := chkE (e := f79_i3304_i3305000102_c7 ..) hF); rewrite [f79_i3304_i3305000102_c7] at hF) | ((with_reducible replace hF := chkE (e := f14_c6 ..) hF); rewrite [f14_c6] at hF) | rewrite [f116_i403_i404000102_2b] at hF | rewrite [f116_i403_i404000102_2_1b] at hF | rewrite [f116_i206_i207000102_2b] at hF | rewrite [f119_c15] at hF | rewrite [f119_c14] at hF | rewrite [f119_10b] at hF | rewrite [f119_7b] at hF | rewrite [f158_i602_i603000102_2b] at hF | rewrite [f79_42b] at hF | rewrite [f79_c41] at hF | rewrite [f79_i3304_i3305000102_2b] at hF | rewrite [f79_c33] at hF | rewrite [f79_27b] at hF | rewrite [f79_c23] at hF | rewrite [f51_c6] at hF | rewrite [f83_c15] at hF | rewrite [f83_10b] at hF | rewrite [f57_c14] at hF | rewrite [f57_10b] at hF | rewrite [f57_c7] at hF | rewrite [f57_3b] at hF | rewrite [f23_c10] at hF | rewrite [f23_6b] at hF | rewrite [f75_c12] at hF | rewrite [f75_6b] at hF | rewrite [f14_c23] at hF | rewrite [f14_c8] at hF | rewrite [f14_4b] at hF | rewrite [f10_i700_c18] at hF | rewrite [f10_i700_c13] at hF | rewrite [f10_i700_10b] at hF | rewrite [f10_c7] at hF | rewrite [f10_i600_c18] at hF | rewrite [f10_i600_c13] at hF | rewrite [f10_i600_10b] at hF | rewrite [f10_c6] at hF | rewrite [f10_i500_c18] at hF | rewrite [f10_i500_c13] at hF | rewrite [f10_i500_10b] at hF | rewrite [f10_i101_c7] at hF | rewrite [f10_i101_c5] at hF | rewrite [f10_i101_3b] at hF)
  | (revert hF; (with_reducible refine G61.lend ?hx ?_); (case hx => exact rfl); intro v hF; conv => whnf)
  | (revert hF; (refine G51.step rfl rfl rfl rfl rfl rfl rfl (by first | exact rfl | assumption | omega | (simp only [List.length_set]; done)) (by first | exact trivial | exact rfl) ?hn ?_); (case hn => exact rfl); intro v hF; (obtain ⟨v, ve⟩ := v); cases v <;> ((try dsimp only at hF); (conv => whnf)))
  | ((with_reducible refine back_id ?_); (with_reducible replace hF := toLp 0 1 hF); exact Lp.backI hF () ⟨_, rfl, rfl, rfl, rfl⟩ rfl)
  | ((with_reducible refine back_id ?_); (with_reducible replace hF := toLp 1 3 hF); exact Lp.backI hF (_, ()) ⟨_, rfl, rfl, rfl, rfl⟩ (pr2 (by first | exact rfl | assumption | omega | (simp only [List.length_set]; done)) rfl))
  | ((with_reducible refine back_id ?_); (with_reducible replace hF := toLp 3 2 hF); exact Lp.backI hF (_, _, _) ⟨_, rfl, rfl, rfl, rfl⟩ (pr2 (by first | exact rfl | assumption | omega | (simp only [List.length_set]; done)) (pr2 (by first | exact rfl | assumption | omega | (simp only [List.length_set]; done)) (by first | exact rfl | assumption | omega | (simp only [List.length_set]; done)))))
  | ((with_reducible refine back_id ?_); (with_reducible replace hF := toLp 1 5 hF); exact Lp.backI hF (_, ()) ⟨_, rfl, rfl, rfl, rfl⟩ (pr2 (by first | exact rfl | assumption | omega | (simp only [List.length_set]; done)) rfl))
  | (revert hF; (with_reducible refine G64.lend ?hx ?_); (case hx => exact rfl); intro v hF; conv => whnf)
  | (revert hF; (refine G197.step rfl rfl rfl rfl rfl  (by first | exact trivial | exact rfl) ?hn ?_); (case hn => exact rfl); intro v hF; conv => whnf)
  | ((with_reducible refine back_id ?_); (with_reducible replace hF := toLp 0 2 hF); exact Lp.backI hF () ⟨_, rfl, rfl, rfl, rfl⟩ rfl)
  | ((with_reducible refine head_id ?_); (with_reducible replace hF := toLp 1 2 hF); exact Lp.headI hF (_, ()) ⟨_, rfl, rfl, rfl, rfl⟩ (pr2 (by first | exact rfl | assumption | omega | (simp only [List.length_set]; done)) rfl))
  | ((with_reducible refine head_id ?_); (with_reducible replace hF := toLp 1 0 hF); exact Lp.headI hF (_, ()) ⟨_, rfl, rfl, rfl, rfl⟩ (pr2 (by first | exact rfl | assumption | omega | (simp only [List.length_set]; done)) rfl))
  | ((with_reducible refine back_id ?_); (with_reducible replace hF := toLp 2 5 hF); exact Lp.backI hF (_, _) ⟨_, rfl, rfl, rfl, rfl⟩ (pr2 (by first | exact rfl | assumption | omega | (simp only [List.length_set]; done)) (by first | exact rfl | assumption | omega | (simp only [List.length_set]; done))))
  | (revert hF; (refine G199.step rfl rfl rfl rfl rfl  (by first | exact trivial | exact rfl) ?hn ?_); (case hn => exact rfl); intro v hF; conv => whnf)
  | ((with_reducible refine head_id ?_); (with_reducible replace hF := toLp 0 0 hF); exact Lp.headI hF () ⟨_, rfl, rfl, rfl, rfl⟩ rfl)
  | ((with_reducible refine back_id ?_); (with_reducible replace hF := toLp 1 2 hF); exact Lp.backI hF (_, ()) ⟨_, rfl, rfl, rfl, rfl⟩ (pr2 (by first | exact rfl | assumption | omega | (simp only [List.length_set]; done)) rfl))
  | ((with_reducible refine loop_id ?_); (with_reducible replace hF := toLp 1 3 hF); ((refine Lp.loopI hF (_, ()) rfl ⟨_, rfl, rfl, rfl, rfl⟩ (pr2 (by first | exact rfl | assumption | omega | (simp only [List.length_set]; done)) rfl) (λ _ => rfl) ?_); clear hF); (rintro n ⟨_, _, _⟩ hF))
  | (revert hF; (refine G201.step rfl rfl rfl rfl rfl  (by first | exact trivial | exact rfl) ?hn ?_); (case hn => exact rfl); intro v hF; conv => whnf)
  | ((with_reducible refine head_id ?_); (with_reducible replace hF := toLp 0 1 hF); exact Lp.headI hF () ⟨_, rfl, rfl, rfl, rfl⟩ rfl)
  | (revert hF; (refine G203.step rfl rfl rfl rfl rfl  (by first | exact trivial | exact rfl) ?hn ?_); (case hn => exact rfl); intro v hF; conv => whnf)
  | ((with_reducible refine head_id ?_); (with_reducible replace hF := toLp 1 1 hF); exact Lp.headI hF (_, ()) ⟨_, rfl, rfl, rfl, rfl⟩ (pr2 (by first | exact rfl | assumption | omega | (simp only [List.length_set]; done)) rfl))
  | ((with_reducible refine head_id ?_); (with_reducible replace hF := toLp 0 2 hF); exact Lp.headI hF () ⟨_, rfl, rfl, rfl, rfl⟩ rfl)
  | (revert hF; (refine G205.step rfl rfl rfl rfl rfl  (by first | exact trivial | exact rfl) ?hn ?_); (case hn => exact rfl); intro v hF; conv => whnf)
  | ((with_reducible refine head_id ?_); (with_reducible replace hF := toLp 1 4 hF); exact Lp.headI hF (_, ()) ⟨_, rfl, rfl, rfl, rfl⟩ (pr2 (by first | exact rfl | assumption | omega | (simp only [List.length_set]; done)) rfl))
  | ((with_reducible refine loop_id ?_); (with_reducible replace hF := toLp 0 1 hF); ((refine Lp.loopI hF () rfl ⟨_, rfl, rfl, rfl, rfl⟩ rfl (λ _ => rfl) ?_); clear hF); (rintro n _ hF))
  | (revert hF; (refine G207.step rfl rfl rfl rfl rfl  (by first | exact trivial | exact rfl) ?hn ?_); (case hn => exact rfl); intro v hF; conv => whnf)
  | ((with_reducible refine head_id ?_); (with_reducible replace hF := toLp 2 1 hF); exact Lp.headI hF (_, _) ⟨_, rfl, rfl, rfl, rfl⟩ (pr2 (by first | exact rfl | assumption | omega | (simp only [List.length_set]; done)) (by first | exact rfl | assumption | omega | (simp only [List.length_set]; done))))
  | ((with_reducible refine head_id ?_); (with_reducible replace hF := toLp 2 2 hF); exact Lp.headI hF (_, _) ⟨_, rfl, rfl, rfl, rfl⟩ (pr2 (by first | exact rfl | assumption | omega | (simp only [List.length_set]; done)) (by first | exact rfl | assumption | omega | (simp only [List.length_set]; done))))
  | ((with_reducible refine loop_id ?_); (with_reducible replace hF := toLp 0 2 hF); ((refine Lp.loopI hF () rfl ⟨_, rfl, rfl, rfl, rfl⟩ rfl (λ _ => rfl) ?_); clear hF); (rintro n ⟨_, _⟩ hF))
  | (revert hF; (refine G209.step rfl rfl rfl rfl rfl  (by first | exact trivial | exact rfl) ?hn ?_); (case hn => exact rfl); intro v hF; conv => whnf)
  | ((with_reducible refine loop_id ?_); (with_reducible replace hF := toLp 3 2 hF); ((refine Lp.loopI hF (_, _, _) rfl ⟨_, rfl, rfl, rfl, rfl⟩ (pr2 (by first | exact rfl | assumption | omega | (simp only [List.length_set]; done)) (pr2 (by first | exact rfl | assumption | omega | (simp only [List.length_set]; done)) (by first | exact rfl | assumption | omega | (simp only [List.length_set]; done)))) (λ _ => rfl) ?_); clear hF); (rintro n ⟨_, _⟩ hF))
  | ((with_reducible refine head_id ?_); (with_reducible replace hF := toLp 2 4 hF); exact Lp.headI hF (_, _) ⟨_, rfl, rfl, rfl, rfl⟩ (pr2 (by first | exact rfl | assumption | omega | (simp only [List.length_set]; done)) (by first | exact rfl | assumption | omega | (simp only [List.length_set]; done))))
  | ((with_reducible refine loop_id ?_); (with_reducible replace hF := toLp 1 2 hF); ((refine Lp.loopI hF (_, ()) rfl ⟨_, rfl, rfl, rfl, rfl⟩ (pr2 (by first | exact rfl | assumption | omega | (simp only [List.length_set]; done)) rfl) (λ _ => rfl) ?_); clear hF); (rintro n ⟨_, _⟩ hF))
  | (revert hF; (refine G211.step rfl rfl rfl rfl rfl  (by first | exact trivial | exact rfl) ?hn ?_); (case hn => exact rfl); intro v hF; conv => whnf)
  | ((with_reducible refine loop_id ?_); (with_reducible replace hF := toLp 1 5 hF); ((refine Lp.loopI hF (_, ()) rfl ⟨_, rfl, rfl, rfl, rfl⟩ (pr2 (by first | exact rfl | assumption | omega | (simp only [List.length_set]; done)) rfl) (λ _ => rfl) ?_); clear hF); (rintro n ⟨_, _, _, _, _⟩ hF))
  | (revert hF; (refine G214.step rfl rfl rfl rfl rfl  (by first | exact trivial | exact rfl) ?hn ?_); (case hn => exact rfl); intro v hF; conv => whnf)
  | ((with_reducible refine seq_id' ?_); (with_reducible replace hF := toCut 0 hF); ((refine Lp.cutI hF rfl rfl ?_ ?_) <;> clear hF); (intro hF); rotate_left; (rintro _ hF); rotate_right)
  | ((with_reducible refine loop_id ?_); (with_reducible replace hF := toLp 2 5 hF); ((refine Lp.loopI hF (_, _) rfl ⟨_, rfl, rfl, rfl, rfl⟩ (pr2 (by first | exact rfl | assumption | omega | (simp only [List.length_set]; done)) (by first | exact rfl | assumption | omega | (simp only [List.length_set]; done))) (λ _ => rfl) ?_); clear hF); (rintro n ⟨_, _, _, _, _⟩ hF))
  | ((with_reducible refine seq_id' ?_); (with_reducible replace hF := toCut 1 hF); ((refine Lp.cutI hF rfl rfl ?_ ?_) <;> clear hF); (intro hF); rotate_left; (rintro _ hF); rotate_right)
  | ((with_reducible refine seq_id' ?_); (with_reducible replace hF := toCut 2 hF); ((refine Lp.cutI hF rfl rfl ?_ ?_) <;> clear hF); (intro hF); rotate_left; (rintro ⟨_, _⟩ hF); rotate_right)
  | (revert hF; (with_reducible refine G83.step ?hx ?_); (case hx => exact rfl); intro v hF; conv => whnf)
  | (revert hF; (with_reducible refine G116.lend ?hx ?_); (case hx => exact rfl); intro v hF; conv => whnf)
  | (revert hF; (with_reducible refine G104.step ?hx ?_); (case hx => exact rfl); intro v hF; conv => whnf)
  | (revert hF; (with_reducible refine G79.step ?hx ?_); (case hx => exact rfl); intro v hF; (obtain ⟨v, ve⟩ := v); cases v <;> ((try dsimp only at hF); (conv => whnf)))
  | ((with_reducible refine seq_id' ?_); (with_reducible replace hF := toCut 4 hF); ((refine Lp.cutI hF rfl rfl ?_ ?_) <;> clear hF); (intro hF); rotate_left; (rintro ⟨_, _, _, _⟩ hF); rotate_right)
  | (revert hF; (with_reducible refine G117.lend ?hx ?_); (case hx => exact rfl); intro v hF; conv => whnf)
  | (revert hF; (with_reducible refine G158.lend ?hx ?_); (case hx => exact rfl); intro v hF; conv => whnf)
  | (revert hF; (with_reducible refine G105.lend ?hx ?_); (case hx => exact rfl); intro v hF; conv => whnf)
  | (revert hF; (refine G198.step rfl rfl rfl rfl rfl  (by first | exact trivial | exact rfl) ?hn ?_); (case hn => exact rfl); intro v hF; conv => whnf)
  | (revert hF; (with_reducible refine G35.lend ?hx ?_); (case hx => exact rfl); intro v hF; conv => whnf)
  | (revert hF; (with_reducible refine G14.lend ?hx ?_); (case hx => exact rfl); intro v hF; conv => whnf)
  | (revert hF; (with_reducible refine G143.step ?hx ?_); (case hx => exact rfl); intro v hF; conv => whnf)
  | (revert hF; (with_reducible refine G148.lend ?hx ?_); (case hx => exact rfl); intro v hF; conv => whnf)
  | (revert hF; (with_reducible refine G118.lend ?hx ?_); (case hx => exact rfl); intro v hF; conv => whnf)
  | (revert hF; (with_reducible refine G107.lend ?hx ?_); (case hx => exact rfl); intro v hF; conv => whnf)
  | (revert hF; (refine G200.step rfl rfl rfl rfl rfl  (by first | exact trivial | exact rfl) ?hn ?_); (case hn => exact rfl); intro v hF; conv => whnf)
  | (revert hF; (with_reducible refine G30.lend ?hx ?_); (case hx => exact rfl); intro v hF; conv => whnf)
  | (revert hF; (with_reducible refine G145.lend ?hx ?_); (case hx => exact rfl); intro v hF; conv => whnf)
  | (revert hF; (refine mkS_nest (d := iN) ?_); intro x hF; conv => whnf)
  | (revert hF; (refine mkS_row (d := iN) ?hz ?_); (case hz => exact rfl); intro x hF; conv => whnf)
  | (revert hF; (with_reducible refine G108.step ?hx ?_); (case hx => exact rfl); intro v hF; cases v <;> ((try dsimp only at hF); (conv => whnf)))
  | (revert hF; (refine G202.step rfl rfl rfl rfl rfl  (by first | exact trivial | exact rfl) ?hn ?_); (case hn => exact rfl); intro v hF; conv => whnf)
  | (revert hF; (with_reducible refine G57.lend ?hx ?_); (case hx => exact rfl); intro v hF; conv => whnf)
  | (revert hF; (with_reducible refine G44.step ?hx ?_); (case hx => exact rfl); intro v hF; conv => whnf)
  | ((refine take_step (d := iN) (by assumption) ?_); conv => whnf)
  | ((refine Or.inr ?_); (conv => whnf); (with_reducible refine zeroD_step (List.map iN (List.replicate 2 (0 : Int))) ?hx ?_); (case hx => (unfold zeroD; kernel_rfl)); conv => whnf)
  | (revert hF; (refine G204.step rfl rfl rfl rfl rfl  (by first | exact trivial | exact rfl) ?hn ?_); (case hn => exact rfl); intro v hF; conv => whnf)
  | (revert hF; (with_reducible refine G84.step ?hx ?_); (case hx => exact rfl); intro v hF; conv => whnf)
  | (revert hF; (refine G17.step rfl rfl rfl rfl rfl rfl rfl (by first | exact rfl | assumption | omega | (simp only [List.length_set]; done)) (by first | exact trivial | exact rfl) ?hn ?_); (case hn => exact rfl); intro v hF; conv => whnf)
  | (revert hF; (with_reducible refine G72.lend ?hx ?_); (case hx => exact rfl); intro v hF; conv => whnf)
  | ((with_reducible have hG := setx_fact hF); clear hF; (refine put_row (d := iN) hG ?hn ?ho (λ q hl hF => ?_)); (case hn => first | exact rfl | assumption | omega); (case ho => (rintro p h; first | cases h; done | (cases h; rfl))); clear hG; conv => whnf)
  | ((with_reducible have hI := is_arS hF); clear hI; revert hF; (refine arS_step (by decide) ?_); intro hF; conv => whnf)
  | (revert hF; (refine G206.step rfl rfl rfl rfl rfl  (by first | exact trivial | exact rfl) ?hn ?_); (case hn => exact rfl); intro v hF; conv => whnf)
  | ((with_reducible have hI := is_idxS hF); clear hI; revert hF; (refine idxS_step ?_); intro x hF; conv => whnf)
  | (revert hF; (with_reducible refine G100.lend ?hx ?_); (case hx => exact rfl); intro v hF; conv => whnf)
  | (revert hF; (with_reducible refine G73.step ?hx ?_); (case hx => exact rfl); intro v hF; conv => whnf)
  | ((refine nest_all (e := sl_iN) (d := iN) (λ _ => rfl) ?hn ?_); (case hn => first | exact rfl | assumption | omega); conv => whnf)
  | (revert hF; (refine A2iN.of_step ?_); intro x hF; conv => whnf)
  | (revert hF; (refine G208.step rfl rfl rfl rfl rfl  (by first | exact trivial | exact rfl) ?hn ?_); (case hn => exact rfl); intro v hF; conv => whnf)
  | (revert hF; (with_reducible refine G101.lend ?hx ?_); (case hx => exact rfl); intro v hF; conv => whnf)
  | (revert hF; (with_reducible refine G74.lend ?hx ?_); (case hx => exact rfl); intro v hF; conv => whnf)
  | ((with_reducible refine chkI_go hF ?_); (clear hF; intro hF; conv => whnf))
  | (revert hF; (refine G210.step rfl rfl rfl rfl rfl  (by first | exact trivial | exact rfl) ?hn ?_); (case hn => exact rfl); intro v hF; conv => whnf)
  | ((with_reducible have hI := is_subS hF); clear hI; revert hF; (refine subS_step ?_); intro x hF; conv => whnf)
  | (revert hF; (with_reducible refine G75.lend ?hx ?_); (case hx => exact rfl); intro v hF; conv => whnf)
  | ((with_reducible have hG := ixN_fact hF); clear hF; (first | (refine ixN_one hG (by (try simp only [W]); omega) (λ x hF => ?_)) | (refine ixN_agg hG (λ _ => rfl) (by (try simp only [W]); omega) (λ x hF => ?_))); clear hG; conv => whnf)
  | (revert hF; (refine G212.step rfl rfl rfl rfl rfl  (by first | exact trivial | exact rfl) ?hn ?_); (case hn => exact rfl); intro v hF; conv => whnf)
  | (revert hF; (refine G18.step rfl rfl rfl rfl rfl rfl rfl (by first | exact rfl | assumption | omega | (simp only [List.length_set]; done)) (by first | exact trivial | exact rfl) ?hn ?_); (case hn => exact rfl); intro v hF; conv => whnf)
  | ((with_reducible have hG := setN_fact hF); clear hF; (first | (refine setN_one hG (by (try simp only [W]); omega) rfl rfl (λ q hF => ?_)) | (refine setN_agg hG (λ _ => rfl) (by (try simp only [W]); omega) rfl rfl (λ q hF => ?_))); clear hG; conv => whnf)
  | (revert hF; (refine G215.step rfl rfl rfl rfl rfl  (by first | exact trivial | exact rfl) ?hn ?_); (case hn => exact rfl); intro v hF; conv => whnf)
  | (revert hF; (refine G23.step rfl rfl rfl rfl rfl rfl rfl (by first | exact rfl | assumption | omega | (simp only [List.length_set]; done)) (by first | exact trivial | exact rfl) ?hn ?_); (case hn => exact rfl); intro v hF; conv => whnf)
  | (revert hF; (refine G21.step rfl rfl rfl rfl rfl rfl rfl (by first | exact rfl | assumption | omega | (simp only [List.length_set]; done)) (by first | exact trivial | exact rfl) ?hn ?_); (case hn => exact rfl); intro v hF; conv => whnf)
  | (cases hF; (refine Or.inl ?_); (conv => whnf); exact ⟨rfl, rfl, rfl⟩)
  | (revert hF; (refine G32.step rfl rfl rfl rfl rfl rfl rfl (by first | exact rfl | assumption | omega | (simp only [List.length_set]; done)) (by first | exact trivial | exact rfl) ?hn ?_); (case hn => exact rfl); intro v hF; conv => whnf)
  | (revert hF; (refine lookF_step (eK := strN) (eM := StoneM.m) strN_inj ?hk ?hd ?he ?_ ?_); (case hk => exact λ _ => rfl); (case hd => exact rfl); (case he => exact rfl); (intro hl hF; conv => whnf); rotate_left; (intro i hl hF; conv => whnf); rotate_right)
  | (revert hF; (refine look_step (eK := strN) (eV := iN) strN_inj ?hk ?hz ?hd ?he ?_); (case hk => exact λ _ => rfl); (case hz => exact rfl); (case hd => exact rfl); (case he => exact rfl); intro x hF; conv => whnf)
  | (with_reducible first | (replace hF := I97.go0 hF) | (replace hF := I97.go1 hF) | (replace hF := I97.go2 hF) | (replace hF := I97.go3 hF) | (replace hF := I97.go4 hF) | (replace hF := I97.go5 hF) | (replace hF := I97.go6 hF) | (replace hF := I97.go7 hF) | (replace hF := I97.go8 hF) | (replace hF := I97.go9 hF))
  | (revert hF; (refine G33.step rfl rfl rfl rfl rfl rfl rfl (by first | exact rfl | assumption | omega | (simp only [List.length_set]; done)) (by first | exact trivial | exact rfl) ?hn ?_); (case hn => exact rfl); intro v hF; conv => whnf)
  | (revert hF; (refine put_step (eK := strN) (eV := iN) strN_inj ?hk ?hv ?hd ?he ?_); (case hk => exact λ _ => rfl); (case hv => exact rfl); (case hd => exact rfl); (case he => exact rfl); intro x hF; conv => whnf)
  | ((with_reducible have hG := app_fact hF); clear hF; (first | ((refine app_row hG ?hn ?hs (λ q hF => ?_)); (case hn => first | exact rfl | assumption | omega); (case hs => exact rfl)) | ((refine app_nil (d := strN) hG ?hs (λ q hF => ?_)); (case hs => exact rfl)) | ((refine app_gen (d := strN) hG ?ho ?hn ?hs (λ q hF => ?_)); (case ho => exact rfl); (case hn => exact rfl); (case hs => exact rfl))); clear hG; conv => whnf)
  | (revert hF; (refine G34.step rfl rfl rfl rfl rfl rfl rfl (by first | exact rfl | assumption | omega | (simp only [List.length_set]; done)) (by first | exact trivial | exact rfl) ?hn ?_); (case hn => exact rfl); intro v hF; conv => whnf)
  | (revert hF; (refine lookF_step (eK := strN) (eM := EditionM.m) strN_inj ?hk ?hd ?he ?_ ?_); (case hk => exact λ _ => rfl); (case hd => exact rfl); (case he => exact rfl); (intro hl hF; conv => whnf); rotate_left; (intro i hl hF; conv => whnf); rotate_right)
  | (revert hF; (refine G36.step rfl rfl rfl rfl rfl rfl rfl (by first | exact rfl | assumption | omega | (simp only [List.length_set]; done)) (by first | exact trivial | exact rfl) ?hn ?_); (case hn => exact rfl); intro v hF; conv => whnf)
  | ((refine lookF_old (eK := strN) (eM := EditionM.m) strN_inj (λ _ => rfl) (by exact rfl) (by exact rfl) (by assumption) ?_); conv => whnf)
  | ((with_reducible have hI := is_addS hF); clear hI; revert hF; (refine addS_step ?_); intro x hF; conv => whnf)
  | (revert hF; (refine G40.step rfl rfl rfl rfl rfl rfl rfl (by first | exact rfl | assumption | omega | (simp only [List.length_set]; done)) (by first | exact trivial | exact rfl) ?hn ?_); (case hn => exact rfl); intro v hF; conv => whnf)
  | ((refine mc_step rfl (by assumption) (by exact rfl) ?_); conv => whnf)
  | ((with_reducible have hI := is_bytesS hF); clear hI; revert hF; (refine bytesS_step ?_); intro x hF; conv => whnf)
  | ((with_reducible have hG := getF_fact hF); clear hF; (obtain ⟨⟨x, hx, hF⟩⟩ := hG); first | ((refine mc_step rfl hx (by exact rfl) ?_); conv => whnf) | skip)
  | ((with_reducible have hI := is_neN hF); clear hI; revert hF; (refine neU_step ?hn ?_); (case hn => first | exact rfl | omega); intro hF; conv => whnf)
  | (revert hF; (refine optP_step ?_ ?_); (intro ho hF; conv => whnf); rotate_left; (intro j ho hF; conv => whnf); rotate_right)
  | ((refine ⟨(by first | exact isOut_nil | exact isOut_ne (by decide) isOut_nil), ?_⟩); conv => whnf)
  | ((refine Or.inr ?_); (conv => whnf); (refine take_row (by first | exact isOut_nil | exact isOut_ne (by decide) isOut_nil) ?_); conv => whnf)
  | ((with_reducible have hI := is_strB hF); clear hI; revert hF; (first | refine strB_step (λ _ h => h) ?_ | refine strB_step2 ?_); intro x hF; conv => whnf)
  | ((refine optP_old (by assumption) ?_); conv => whnf)
  | ((refine setF_step hF (by assumption) rfl (by exact rfl) (λ q hq hF1 => ?_)); clear hF; (have hF := hF1); clear hF1; conv => whnf)
  | ((with_reducible have hI := is_neN hF); clear hI; revert hF; (refine neN_step ?hn ?_); (case hn => first | exact rfl | assumption | omega); intro hF; conv => whnf)
  | ((refine lendF_step rfl (by assumption) (λ key => ?_)); conv => whnf)
  | (revert hF; (with_reducible refine idx1 ?hn ?_); (case hn => first | exact rfl | exact (List.length_map _) | assumption | omega | simp); intro x hx hF; conv => whnf)
  | ((with_reducible have hG := app_fact hF); clear hF; (first | ((refine app_row hG ?hn ?hs (λ q hF => ?_)); (case hn => first | exact rfl | assumption | omega); (case hs => exact rfl)) | ((refine app_nil (d := iN) hG ?hs (λ q hF => ?_)); (case hs => exact rfl)) | ((refine app_gen (d := iN) hG ?ho ?hn ?hs (λ q hF => ?_)); (case ho => exact rfl); (case hn => exact rfl); (case hs => exact rfl))); clear hG; conv => whnf)
  | ((refine inl_stepN 602 603000000 rfl rfl (Nat.le_of_ble_eq_true rfl) rfl (λ R hR => ?_)); (conv => whnf); (with_reducible refine hR _ ?ha ?_); (case ha => exact rfl); clear R hR)
  | ((with_reducible have hG := sub_fact hF); clear hF; (refine sub_step hG (λ q hF => ?_)); clear hG; conv => whnf)
  | ((with_reducible have hG := app_fact hF); clear hF; (first | ((refine app_row hG ?hn ?hs (λ q hF => ?_)); (case hn => first | exact rfl | assumption | omega); (case hs => exact rfl)) | ((refine app_nil (d := u8N) hG ?hs (λ q hF => ?_)); (case hs => exact rfl)) | ((refine app_gen (d := u8N) hG ?ho ?hn ?hs (λ q hF => ?_)); (case ho => exact rfl); (case hn => exact rfl); (case hs => exact rfl))); clear hG; conv => whnf)
  | ((refine inl_stepN 603000102 603000103000000 rfl rfl (Nat.le_of_ble_eq_true rfl) rfl (λ R hR => ?_)); (conv => whnf); (with_reducible refine hR _ ?ha ?_); (case ha => exact rfl); clear R hR)
  | ((refine row_all ?hn ?_); (case hn => first | exact rfl | (simp; done) | (simp; omega)); conv => whnf)
  | ((refine inl_stepN 603000103000405 603000103000406000000 rfl rfl (Nat.le_of_ble_eq_true rfl) rfl (λ R hR => ?_)); (conv => whnf); (with_reducible refine hR _ ?ha ?_); (case ha => exact rfl); clear R hR)
  | (revert hF; (refine dem_stepN ?hn ?_ ?_); (case hn => first | exact rfl | assumption | omega); (intro hl hF; conv => whnf); rotate_left; (intro hF; conv => whnf); rotate_right)
  | ((with_reducible refine le_step ?hn ?_); (case hn => first | exact rfl | assumption | omega); conv => whnf)
  | ((with_reducible have hG := setx_fact hF); clear hF; (refine setx_step hG ?hs (λ q hl hF => ?_)); (case hs => exact rfl); clear hG; conv => whnf)
  | ((refine ⟨?hx, ?_⟩); (case hx => exact ⟨rfl, Nat.le_of_ble_eq_true rfl, rfl⟩); conv => whnf)
  | ((with_reducible refine ex_step ?_); conv => whnf)
  | ((with_reducible have hG := chk_fact hF); clear hF; (refine ⟨?hx, ?_⟩); (case hx => (first | exact of_decide_eq_true hG.1 | exact hG.1)); have hF := hG.2; clear hG; conv => whnf)
  | ((refine inl_stepN 1203 1204000000 rfl rfl (Nat.le_of_ble_eq_true rfl) rfl (λ R hR => ?_)); (conv => whnf); (with_reducible refine hR _ ?ha ?_); (case ha => exact rfl); clear R hR)
  | ((with_reducible refine both_T ?hx ?_); (case hx => first | exact rfl | assumption | exact notT (by assumption)); conv => whnf)
  | ((refine inl_stepN 1400 1401000000 rfl rfl (Nat.le_of_ble_eq_true rfl) rfl (λ R hR => ?_)); (conv => whnf); (with_reducible refine hR _ ?ha ?_); (case ha => exact rfl); clear R hR)
  | ((with_reducible refine both_F ?hx ?_); (case hx => first | exact rfl | assumption | exact notF (by assumption)); conv => whnf)
  | ((refine inl_stepN 206 207000000 rfl rfl (Nat.le_of_ble_eq_true rfl) rfl (λ R hR => ?_)); (conv => whnf); (with_reducible refine hR _ ?ha ?_); (case ha => exact rfl); clear R hR)
  | ((refine inl_stepN 1101 1102000000 rfl rfl (Nat.le_of_ble_eq_true rfl) rfl (λ R hR => ?_)); (conv => whnf); (with_reducible refine hR _ ?ha ?_); (case ha => exact rfl); clear R hR)
  | ((refine inl_stepN 1102 1103000000 rfl rfl (Nat.le_of_ble_eq_true rfl) rfl (λ R hR => ?_)); (conv => whnf); (with_reducible refine hR _ ?ha ?_); (case ha => exact rfl); clear R hR)
  | ((refine inl_stepN 3304 3305000000 rfl rfl (Nat.le_of_ble_eq_true rfl) rfl (λ R hR => ?_)); (conv => whnf); (with_reducible refine hR _ ?ha ?_); (case ha => exact rfl); clear R hR)
  | ((refine inl_stepN 100 101000000 rfl rfl (Nat.le_of_ble_eq_true rfl) rfl (λ R hR => ?_)); (conv => whnf); (with_reducible refine hR _ ?ha ?_); (case ha => exact rfl); clear R hR)
  | ((refine inl_stepN 101 102000000 rfl rfl (Nat.le_of_ble_eq_true rfl) rfl (λ R hR => ?_)); (conv => whnf); (with_reducible refine hR _ ?ha ?_); (case ha => exact rfl); clear R hR)
  | ((refine inl_stepN 403 404000000 rfl rfl (Nat.le_of_ble_eq_true rfl) rfl (λ R hR => ?_)); (conv => whnf); (with_reducible refine hR _ ?ha ?_); (case ha => exact rfl); clear R hR)
  | ((refine inl_stepN 1502 1503000000 rfl rfl (Nat.le_of_ble_eq_true rfl) rfl (λ R hR => ?_)); (conv => whnf); (with_reducible refine hR _ ?ha ?_); (case ha => exact rfl); clear R hR)
  | ((refine inl_stepN 1408 1409000000 rfl rfl (Nat.le_of_ble_eq_true rfl) rfl (λ R hR => ?_)); (conv => whnf); (with_reducible refine hR _ ?ha ?_); (case ha => exact rfl); clear R hR)
  | ((refine inl_stepN 1404 1405000000 rfl rfl (Nat.le_of_ble_eq_true rfl) rfl (λ R hR => ?_)); (conv => whnf); (with_reducible refine hR _ ?ha ?_); (case ha => exact rfl); clear R hR)
  | ((refine inl_stepN 3305000102 3305000103000000 rfl rfl (Nat.le_of_ble_eq_true rfl) rfl (λ R hR => ?_)); (conv => whnf); (with_reducible refine hR _ ?ha ?_); (case ha => exact rfl); clear R hR)
  | ((refine inl_stepN 2200 2201000000 rfl rfl (Nat.le_of_ble_eq_true rfl) rfl (λ R hR => ?_)); (conv => whnf); (with_reducible refine hR _ ?ha ?_); (case ha => exact rfl); clear R hR)
  | ((refine inl_stepN 500 102000101000107000000 rfl rfl (Nat.le_of_ble_eq_true rfl) rfl (λ R hR => ?_)); (conv => whnf); (with_reducible refine hR _ ?ha ?_); (case ha => exact rfl); clear R hR)
  | ((refine inl_stepN 207000102 207000103000000 rfl rfl (Nat.le_of_ble_eq_true rfl) rfl (λ R hR => ?_)); (conv => whnf); (with_reducible refine hR _ ?ha ?_); (case ha => exact rfl); clear R hR)
  | ((refine inl_stepN 1503000101 1503000102000000 rfl rfl (Nat.le_of_ble_eq_true rfl) rfl (λ R hR => ?_)); (conv => whnf); (with_reducible refine hR _ ?ha ?_); (case ha => exact rfl); clear R hR)
  | ((refine inl_stepN 1806 1807000000 rfl rfl (Nat.le_of_ble_eq_true rfl) rfl (λ R hR => ?_)); (conv => whnf); (with_reducible refine hR _ ?ha ?_); (case ha => exact rfl); clear R hR)
  | ((refine inl_stepN 1103000101 1103000102000000 rfl rfl (Nat.le_of_ble_eq_true rfl) rfl (λ R hR => ?_)); (conv => whnf); (with_reducible refine hR _ ?ha ?_); (case ha => exact rfl); clear R hR)
  | ((refine inl_stepN 600 102000101000107000000 rfl rfl (Nat.le_of_ble_eq_true rfl) rfl (λ R hR => ?_)); (conv => whnf); (with_reducible refine hR _ ?ha ?_); (case ha => exact rfl); clear R hR)
  | ((refine inl_stepN 404000102 404000103000000 rfl rfl (Nat.le_of_ble_eq_true rfl) rfl (λ R hR => ?_)); (conv => whnf); (with_reducible refine hR _ ?ha ?_); (case ha => exact rfl); clear R hR)
  | ((refine inl_stepN 2000 2001000000 rfl rfl (Nat.le_of_ble_eq_true rfl) rfl (λ R hR => ?_)); (conv => whnf); (with_reducible refine hR _ ?ha ?_); (case ha => exact rfl); clear R hR)
  | ((refine inl_stepN 700 102000101000107000000 rfl rfl (Nat.le_of_ble_eq_true rfl) rfl (λ R hR => ?_)); (conv => whnf); (with_reducible refine hR _ ?ha ?_); (case ha => exact rfl); clear R hR)
  | ((refine inl_stepN 207000103000405 207000103000406000000 rfl rfl (Nat.le_of_ble_eq_true rfl) rfl (λ R hR => ?_)); (conv => whnf); (with_reducible refine hR _ ?ha ?_); (case ha => exact rfl); clear R hR)
  | ((refine inl_stepN 102000100 102000101000000 rfl rfl (Nat.le_of_ble_eq_true rfl) rfl (λ R hR => ?_)); (conv => whnf); (with_reducible refine hR _ ?ha ?_); (case ha => exact rfl); clear R hR)
  | ((refine inl_stepN 404000103000405 404000103000406000000 rfl rfl (Nat.le_of_ble_eq_true rfl) rfl (λ R hR => ?_)); (conv => whnf); (with_reducible refine hR _ ?ha ?_); (case ha => exact rfl); clear R hR)
  | ((refine inl_stepN 102000101000107000800 102000101000107000801000000 rfl rfl (Nat.le_of_ble_eq_true rfl) rfl (λ R hR => ?_)); (conv => whnf); (with_reducible refine hR _ ?ha ?_); (case ha => exact rfl); clear R hR)
  | (show Kinl _ _ _ _ _ _ _; conv => whnf)
  | ((with_reducible refine kinl_step ?ha ?hb ?_); (case ha => exact rfl); (case hb => exact rfl); conv => whnf)
  | ((refine ⟨?hx, trivial⟩); (case hx => (cases hF; exact rfl)))
  | ((refine ⟨?hx, ?_⟩); (case hx => decide); conv => whnf)
  | with_reducible refine k_seq ?_
  | (have hF : (none : Option _) = some _ := hF; cases hF)
  | ((rename I97 => xi); cases xi <;> ((try dsimp only at hF); (try (conv => whnf))))))
theorem Q215 : ∀ N : Nat, CallOK Tryz.prog 215 (effPg Spf215 (H215 N)) := Wall1.1
theorem P215 : A215 := eff_ex Q215
theorem Q211 : ∀ N : Nat, CallOK Tryz.prog 211 (effPg Spf211 (H211 N)) := Wall1.2.1
theorem P211 : A211 := eff_ex Q211
theorem P116 : A116 := Wall1.2.2.1
theorem P119 : A119 := Wall1.2.2.2.1
theorem P107 : A107 := Wall1.2.2.2.2.1
theorem P158 : A158 := Wall1.2.2.2.2.2.1 P116
theorem P84 : A84 := Wall1.2.2.2.2.2.2.1 P119
theorem Q32 : ∀ N : Nat, CallOK Tryz.prog 32 (effPg Spf32 (H32 N)) := Wall1.2.2.2.2.2.2.2.1
theorem P32 : A32 := eff_ex Q32
theorem Q33 : ∀ N : Nat, CallOK Tryz.prog 33 (effPg Spf33 (H33 N)) := Wall1.2.2.2.2.2.2.2.2.1
theorem P33 : A33 := eff_ex Q33
theorem Q34 : ∀ N : Nat, CallOK Tryz.prog 34 (effPg Spf34 (H34 N)) := Wall1.2.2.2.2.2.2.2.2.2.1
theorem P34 : A34 := eff_ex Q34
theorem Q36 : ∀ N : Nat, CallOK Tryz.prog 36 (effPg Spf36 (H36 N)) := Wall1.2.2.2.2.2.2.2.2.2.2.1
theorem P36 : A36 := eff_ex Q36
theorem Q40 : ∀ N : Nat, CallOK Tryz.prog 40 (effPg Spf40 (H40 N)) := Wall1.2.2.2.2.2.2.2.2.2.2.2.1
theorem P40 : A40 := eff_ex Q40
theorem P79 : A79 := Wall1.2.2.2.2.2.2.2.2.2.2.2.2.1 P107
theorem P146 : A146 := Wall1.2.2.2.2.2.2.2.2.2.2.2.2.2.1 P158
theorem P131 : A131 := Wall1.2.2.2.2.2.2.2.2.2.2.2.2.2.2.1 P158 P116
theorem Q51 : ∀ N : Nat, CallOK Tryz.prog 51 (effPg Spf51 (H51 N)) := Wall1.2.2.2.2.2.2.2.2.2.2.2.2.2.2.2.1 P215 P79
theorem P51 : A51 := eff_ex Q51
theorem P118 : A118 := Wall1.2.2.2.2.2.2.2.2.2.2.2.2.2.2.2.2.1 P146
theorem P101 : A101 := Wall1.2.2.2.2.2.2.2.2.2.2.2.2.2.2.2.2.2.1 P131
theorem Q17 : ∀ N : Nat, CallOK Tryz.prog 17 (effPg Spf17 (H17 N)) := Wall1.2.2.2.2.2.2.2.2.2.2.2.2.2.2.2.2.2.2.1 P51
theorem P17 : A17 := eff_ex Q17
theorem Q18 : ∀ N : Nat, CallOK Tryz.prog 18 (effPg Spf18 (H18 N)) := Wall1.2.2.2.2.2.2.2.2.2.2.2.2.2.2.2.2.2.2.2.1 P211 P51
theorem P18 : A18 := eff_ex Q18
theorem P83 : A83 := Wall1.2.2.2.2.2.2.2.2.2.2.2.2.2.2.2.2.2.2.2.2.1 P118 P116
theorem P57 : A57 := Wall1.2.2.2.2.2.2.2.2.2.2.2.2.2.2.2.2.2.2.2.2.2.1 P84 P83
theorem Q23 : ∀ N : Nat, CallOK Tryz.prog 23 (effPg Spf23 (H23 N)) := Wall1.2.2.2.2.2.2.2.2.2.2.2.2.2.2.2.2.2.2.2.2.2.2.1 P57
theorem P23 : A23 := eff_ex Q23
theorem P75 : A75 := Wall1.2.2.2.2.2.2.2.2.2.2.2.2.2.2.2.2.2.2.2.2.2.2.2.1 P101 P84 P57
theorem P14 : A14 := Wall1.2.2.2.2.2.2.2.2.2.2.2.2.2.2.2.2.2.2.2.2.2.2.2.2.1 P40 P36 P34 P33 P32 P23 P18 P17
theorem P10 : A10 := Wall1.2.2.2.2.2.2.2.2.2.2.2.2.2.2.2.2.2.2.2.2.2.2.2.2.2 P18 P75 P36 P34 P32 P14

end Go.Vc
namespace Go.Vc
theorem known_ok : f10 200 = some true := by kernel_rfl
end Go.Vc
namespace Go.Vc
open Go.Proofs
theorem lx_of {l : List (String × DataW Unit)} (h1 : (l.filter λ x => x.1 == "internal/strconv.uint64pow10") = [("internal/strconv.uint64pow10", Lib.tabData .u64 Lib.pow10Tab)]) {w : World} (h : laidMetH Tryz.prog l w.memory) : LX Tryz.prog w := by
 have h2 := laidMetH.filter (λ x => x.1 == "internal/strconv.uint64pow10") h
 rw [h1, MakeChecks.laidMetH_plain _ _ _ (by rfl)] at h2
 exact LX.heap (w := w.memory) (Lib.tabIs_of_head (g := 0) (t := 226) (e := 182) (n := 20) (by kernel_rfl) (by kernel_rfl) (by kernel_rfl) (by kernel_rfl) (by kernel_rfl) (by kernel_rfl) h2) rfl
end Go.Vc

/-
  A library for proofs about Go functions by symbolic evaluation,and plain Lean functions that the walked Go functions compute (written by a program of this claim).
-/
import Derived.Test.YtijmkjnlgcockaaGreatDoorFMF8
import Derived.Test.YtijmkjnlgcockaaGreatDoorFMF5
set_option linter.unusedVariables false
set_option linter.unnecessarySimpa false
set_option linter.unusedSimpArgs false
namespace Go.Vc
open Go.Proofs
def reF (m : List (ByteArray × ByteArray)) (kinds : ByteArray) : Nat -> TL -> ByteArray -> Int -> Option ByteArray
  | 0,_,_,_=>none
  | n + 1,p,line,i=>bif decide (i < (List.length p : Int)) then (bif decide (i <= (ByteArray.size kinds : Int)) then ((subS kinds (W (i - (1 : Int))) i).bind λ x48 =>
 (ix p i).bind λ x49 =>
 (addS x48 x49).bind λ x50 =>
 (some (zaG zaS x50 m)).bind λ x51 =>
 (ix p i).bind λ x52 =>
 (setx p i x51.1).bind λ x53 =>
 (ix x53 i).bind λ x54 =>
 (addS (strC [32]) x54).bind λ x55 =>
 (addS line x55).bind λ x56 =>
 reF m kinds n x53 x56 (W (i + (1 : Int))))
 else ((ix p i).bind λ x57 =>
 (addS (strC [32]) x57).bind λ x58 =>
 (addS line x58).bind λ x59 =>
 reF m kinds n p x59 (W (i + (1 : Int)))))
 else some line
theorem zvB {α β γ : Type} (o : Option α) (f : α -> Option β) (g : β -> Option γ) : ((o.bind f).bind g) = o.bind λ x=>(f x).bind g := by cases o <;> rfl
theorem zvC {b106_1 : TL} {b100 : TS} {b101 : TE} {b102 : TC} {m : List (ByteArray × ByteArray)} {x32 : TL} {v83 : Int} {o1 : TL} {o2 : TS} {o3 : TE} {o4 : TC} {q : ByteArray × Bool} {k : ByteArray -> Option Bool} :
  ∀ (n : Nat) (p : TL) (line : ByteArray) (i : Int),zlK b106_1 b100 b101 b102 m x32 v83 o1 o2 o3 o4 q k n p line i = (reF m q.1 n p line i).bind k := by
 intro n
 induction n with
 | zero=>intro p line i;rfl
 | succ n ih =>
  intro p line i;simp only [zlK,zp0,reF,ih]
  cases decide (i < (List.length p : Int))
  .rfl
  .cases decide (i <= (ByteArray.size q.1 : Int))
   .simp only [cond_true,cond_false,zvB]
   .simp only [cond_true,zvB]
def zvD : List (ByteArray × ByteArray) := setK (strC [103,114,105,110,100]) (strC [48]) (setK (strC [100,101,108,105,118,101,114]) (strC [50,49]) (setK (strC [99,108,97,105,109]) (strC [50,49]) (setK (strC [99,108,111,115,101]) (strC [49]) (setK (strC [112,114,105,110,116]) (strC [48]) (setK (strC [112,97,112,101,114]) (strC [49]) (setK (strC [100,114,97,119]) (strC [48,49]) (setK (strC [101,100,105,116,105,111,110]) (strC [49]) (setK (strC [115,116,111,110,101]) (strC [48]) []))))))))
def reM (m : List (ByteArray × ByteArray)) (N : Nat) (y : ByteArray) : Option ByteArray := (f31 N y).bind λ x34=>(ix x34 (0 : Int)).bind λ x44=>reF m (zaG zaS x44 zvD).1 N x34 x44 1
def toM (t : Nat) : List (ByteArray × ByteArray) :=
 [(strC [48,97],nmT t 0 0),(strC [48,98],nmT t 0 1),(strC [48,99],nmT t 0 2),(strC [49,109,97,112],nmT t 1 0),(strC [49,111,100,101],nmT t 1 1),(strC [50,97,110,110],nmT t 2 0),(strC [50,98,111,98],nmT t 2 1),(strC [50,99,121],nmT t 2 2)]
def reB (t : Nat) (l : Ln) : Bool := match reM (toM t) 200 (txt nm0 l) with
 | some y=>decide (y = txt (nmT t) l)
 | none=>false
theorem zvE : (zeZ.all (reB 0) && (zeZ.all (reB 1) && zeZ.all (reB 2))) = true := by kernel_rfl
theorem zqa : (zeZ.all (zlO (nmT 0)) && (zeZ.all (zlO (nmT 1)) && zeZ.all (zlO (nmT 2)))) = true := by kernel_rfl
theorem tab3 {f : Nat -> Ln -> Bool} (h : (zeZ.all (f 0) && (zeZ.all (f 1) && zeZ.all (f 2))) = true) {t : Nat} (ht : t < 3) {l : Ln} (hl : l.ok) : f t l = true := by
 rw [Bool.and_eq_true,Bool.and_eq_true] at h
 match t,ht with
 | 0,_=>exact List.all_eq_true.1 h.1 l (zc7 hl)
 | 1,_=>exact List.all_eq_true.1 h.2.1 l (zc7 hl)
 | 2,_=>exact List.all_eq_true.1 h.2.2 l (zc7 hl)
theorem re_ln {t : Nat} (ht : t < 3) {l : Ln} (hl : l.ok) : reM (toM t) 200 (txt nm0 l) = some (txt (nmT t) l) := by
 have h := tab3 (f := reB) zvE ht hl;unfold reB at h
 split at h
 .rename_i y hy;rw [hy,of_decide_eq_true h]
 .cases h
theorem zrR {t : Nat} (ht : t < 3) {l : Ln} (hl : l.ok) : f79 198 (txt (nmT t) l) = some (ord (nmT t) l,0) := zmO (tab3 (f := λ t=>zlO (nmT t)) zqa ht hl)
end Go.Vc

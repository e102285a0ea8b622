/-
  A library for proofs about Go functions by symbolic evaluation, and plain Lean functions that the walked Go functions compute (written by a program of this claim).
-/
import Derived.Test.YtifcnocpjdmaiaaMostF2
import Derived.Test.YtifcnocpjdmaiaaMostF1
import Derived.Test.YtifcnocpjdmaiaaVc2
/-
  PLAIN LAWS OF CUT, 4: all cuts of a piece; the statement CutLayouts.
-/
namespace Go.Vc
set_option linter.unusedVariables false
set_option linter.unnecessarySimpa false
set_option linter.unusedSimpArgs false
set_option linter.unusedSimpArgs false

def lineCuts (up : Bool) (p : Label) (l : List Label) : List Cut := ((List.range' 0 12).filter fun i : Nat => isCut p l ⟨up, (i : Int)⟩).map fun i : Nat => ⟨up, (i : Int)⟩
def cutsL (p : Label) (l : List Label) : List Cut := lineCuts true p l ++ lineCuts false p l
theorem forK_filter {ρ : Type} {f : Nat → Bool} {g : Nat → Cut} {k : List Cut → Option ρ} : ∀ (m i : Nat) (s : List Cut), s.length + m ≤ 1000 →
    forK (fun i (s : List Cut) c => bif f i then (app 16 s [g i]).bind c else c s) k i m s = k (s ++ ((List.range' i m).filter f).map g)
  | 0, i, s, _ => by simp [forK]
  | m + 1, i, s, h => by
    simp only [forK, List.range'_succ, List.filter_cons]
    cases f i with
    | true =>
      rw [cond_true, app_ok (by simp; omega) (by simp; omega)]
      simp only [Option.bind_some]
      rw [forK_filter m (i + 1) _ (by simp; omega)]
      simp
    | false => rw [cond_false, forK_filter m (i + 1) s (by omega)]; simp
theorem f45_eq {N : Nat} {p : Label} {l : List Label} (hs : Small p) (hf : ∀ x, x ∈ l → Fits p x) (hl : l.length ≤ 30) (hN : 30 < N) : f45 N ⟨p, l⟩ = some (cutsL p l) := by
  have h6 : ∀ (v : Nat) (up : Bool) (k1 : List Cut → Option (List Cut)) (s : List Cut), s.length ≤ 100 → f45_6 ⟨p, l⟩ N (v : Int) k1 up N s (0 : Int) = k1 (s ++ lineCuts up p l) := by
    intro v up k1 s hsl
    have := loopN (F := fun n (s : List Cut) j => f45_6 ⟨p, l⟩ N (v : Int) k1 up n s j) (g := fun i (s : List Cut) c => bif isCut p l ⟨up, (i : Int)⟩ then (app 16 s [⟨up, (i : Int)⟩]).bind c else c s) (k := k1) 0 12 (by omega)
      (fun n s i _ hi => by
        obtain ⟨r, h1, h2⟩ := f69_ok (c := ⟨up, (i : Int)⟩) hs hf hl hN
        simp only [f45_6, f45_6b, decide_eq_true (show (i : Int) < 12 by omega), cond_true, h1, Option.bind_some, h2.is, W_nat (show i < 9223372036854775807 by omega)])
      (fun n s => rfl) N s (by omega)
    refine this.trans ?_
    rw [forK_filter _ _ _ (by omega)]
    rfl
  show f45_3 ⟨p, l⟩ N f45_c13 N [] (0 : Int) = _
  have := loopL (l := [true, false]) (F := fun n (s : List Cut) j => f45_3 ⟨p, l⟩ N f45_c13 n s j) (g := fun i up (s : List Cut) c => f45_6 ⟨p, l⟩ N (i : Int) c up N s (0 : Int)) (k := f45_c13)
    (fun n s i x hx => by
      have hi := (List.getElem?_eq_some_iff.1 hx).1
      simp only [f45_3, f45_3b, joinK, ix_nat, hx, Option.bind_some, decide_eq_true (show (i : Int) < (([true, false] : List Bool).length : Int) by simp at hi ⊢; omega), cond_true]
      congr 1
      funext s'
      simp only [f45_c12, W_nat (show i < 9223372036854775807 by simp at hi; omega)])
    (fun n s => rfl) N [] (by simp; omega)
  refine this.trans ?_
  simp only [foldK]
  have hlc : (lineCuts true p l).length ≤ 12 := by
    unfold lineCuts
    rw [List.length_map]
    exact Nat.le_trans (List.length_filter_le _ _) (by simp)
  rw [h6 0 true _ [] (by simp), h6 1 false _ _ (by simp; omega)]
  rfl

/-! The document's way: labels that lie inside. -/
def insideB (p x : Label) : Bool := decide (p.X ≤ x.X) && (decide (p.Y ≤ x.Y) && (decide (W (x.X + x.W) ≤ W (p.X + p.W)) && decide (W (x.Y + x.H) ≤ W (p.Y + p.H))))
theorem filter_fold {k : List Label → Option (List Label)} {f : Label → Bool} : ∀ (l : List Label) (i : Nat) (s : List Label), s.length + l.length ≤ 1000 →
    foldK (fun _ x (s : List Label) c => bif f x then (app 32 s [x]).bind c else c s) k i l s = k (s ++ l.filter f)
  | [], i, s, _ => by simp [foldK]
  | x :: r, i, s, h => by
    simp only [List.length_cons] at h
    simp only [foldK, List.filter_cons]
    cases f x with
    | true =>
      rw [cond_true, app_ok (by simp; omega) (by simp; omega)]
      simp only [Option.bind_some]
      rw [filter_fold r (i + 1) _ (by simp; omega)]
      simp
    | false => rw [cond_false, filter_fold r (i + 1) s (by omega)]; simp
theorem f62_eq {N : Nat} {p : Label} {l : List Label} (hl : l.length ≤ 30) (hN : 30 < N) : f62 N l p = some (l.filter (insideB p)) := by
  show f62_3 l p f62_c7 N [] (0 : Int) = _
  have := loopL (l := l) (F := fun n (s : List Label) j => f62_3 l p f62_c7 n s j) (g := fun _ x (s : List Label) c => bif insideB p x then (app 32 s [x]).bind c else c s) (k := f62_c7)
    (fun n s i x hx => by
      have hi := (List.getElem?_eq_some_iff.1 hx).1
      simp only [f62_3, f62_3b, ix_nat, hx, Option.bind_some, decide_eq_true (show (i : Int) < (l.length : Int) by omega), cond_true, W_nat (show i < 9223372036854775807 by omega), insideB]
      cases decide (p.X ≤ x.X) <;> cases decide (p.Y ≤ x.Y) <;> cases decide (W (x.X + x.W) ≤ W (p.X + p.W)) <;> cases decide (W (x.Y + x.H) ≤ W (p.Y + p.H)) <;> rfl)
    (fun n s => by simp [f62_3, f62_3b]) N [] (by omega)
  refine this.trans ?_
  rw [filter_fold _ _ _ (by simp; omega)]
  simp [f62_c7]
theorem insideB_iff {p x : Label} (hp : -1000 ≤ p.X + p.W ∧ p.X + p.W ≤ 1000 ∧ -1000 ≤ p.Y + p.H ∧ p.Y + p.H ≤ 1000) (hx : -1000 ≤ x.X + x.W ∧ x.X + x.W ≤ 1000 ∧ -1000 ≤ x.Y + x.H ∧ x.Y + x.H ≤ 1000) :
    insideB p x = true ↔ p.X ≤ x.X ∧ p.Y ≤ x.Y ∧ x.X + x.W ≤ p.X + p.W ∧ x.Y + x.H ≤ p.Y + p.H := by
  unfold insideB
  rw [W_in (n := x.X + x.W) (by omega) (by omega), W_in (n := p.X + p.W) (by omega) (by omega), W_in (n := x.Y + x.H) (by omega) (by omega), W_in (n := p.Y + p.H) (by omega) (by omega)]
  simp only [Bool.and_eq_true, decide_eq_true_eq]
/-- the halves of a cut, by the labels in them -/
theorem inside_half1 {p x : Label} {c : Cut} (hs : Small p) (hx : Fits p x) (hc : inner c p = true) : insideB (half1 p c) x = before c x := by
  have s1 := hs.x0; have s2 := hs.y0; have s3 := hs.x1; have s4 := hs.y1; have s5 := hs.w; have s6 := hs.h
  have t1 := hx.w; have t2 := hx.h; have t3 := hx.x0; have t4 := hx.y0; have t5 := hx.x1; have t6 := hx.y1
  obtain ⟨up, a⟩ := c
  unfold inner at hc
  rw [Bool.and_eq_true, decide_eq_true_iff, decide_eq_true_iff] at hc
  rw [Bool.eq_iff_iff, before_iff]
  cases up with
  | true =>
    have hc : p.X + 1 ≤ a ∧ a ≤ p.X + p.W - 1 := hc
    rw [insideB_iff (p := half1 p ⟨true, a⟩) (x := x) (by show -1000 ≤ p.X + (a - p.X) ∧ p.X + (a - p.X) ≤ 1000 ∧ -1000 ≤ p.Y + p.H ∧ p.Y + p.H ≤ 1000; omega) (by omega)]
    show (p.X ≤ x.X ∧ p.Y ≤ x.Y ∧ x.X + x.W ≤ p.X + (a - p.X) ∧ x.Y + x.H ≤ p.Y + p.H) ↔ x.X + x.W ≤ a; omega
  | false =>
    have hc : p.Y + 1 ≤ a ∧ a ≤ p.Y + p.H - 1 := hc
    rw [insideB_iff (p := half1 p ⟨false, a⟩) (x := x) (by show -1000 ≤ p.X + p.W ∧ p.X + p.W ≤ 1000 ∧ -1000 ≤ p.Y + (a - p.Y) ∧ p.Y + (a - p.Y) ≤ 1000; omega) (by omega)]
    show (p.X ≤ x.X ∧ p.Y ≤ x.Y ∧ x.X + x.W ≤ p.X + p.W ∧ x.Y + x.H ≤ p.Y + (a - p.Y)) ↔ x.Y + x.H ≤ a; omega
theorem inside_half2 {p x : Label} {c : Cut} (hs : Small p) (hx : Fits p x) (hc : inner c p = true) : insideB (half2 p c) x = behind c x := by
  have s1 := hs.x0; have s2 := hs.y0; have s3 := hs.x1; have s4 := hs.y1; have s5 := hs.w; have s6 := hs.h
  have t1 := hx.w; have t2 := hx.h; have t3 := hx.x0; have t4 := hx.y0; have t5 := hx.x1; have t6 := hx.y1
  obtain ⟨up, a⟩ := c
  unfold inner at hc
  rw [Bool.and_eq_true, decide_eq_true_iff, decide_eq_true_iff] at hc
  rw [Bool.eq_iff_iff, behind_iff]
  cases up with
  | true =>
    have hc : p.X + 1 ≤ a ∧ a ≤ p.X + p.W - 1 := hc
    rw [insideB_iff (p := half2 p ⟨true, a⟩) (x := x) (by show -1000 ≤ a + (p.X + p.W - a) ∧ a + (p.X + p.W - a) ≤ 1000 ∧ -1000 ≤ p.Y + p.H ∧ p.Y + p.H ≤ 1000; omega) (by omega)]
    show (a ≤ x.X ∧ p.Y ≤ x.Y ∧ x.X + x.W ≤ a + (p.X + p.W - a) ∧ x.Y + x.H ≤ p.Y + p.H) ↔ a ≤ x.X; omega
  | false =>
    have hc : p.Y + 1 ≤ a ∧ a ≤ p.Y + p.H - 1 := hc
    rw [insideB_iff (p := half2 p ⟨false, a⟩) (x := x) (by show -1000 ≤ p.X + p.W ∧ p.X + p.W ≤ 1000 ∧ -1000 ≤ a + (p.Y + p.H - a) ∧ a + (p.Y + p.H - a) ≤ 1000; omega) (by omega)]
    show (p.X ≤ x.X ∧ a ≤ x.Y ∧ x.X + x.W ≤ p.X + p.W ∧ x.Y + x.H ≤ a + (p.Y + p.H - a)) ↔ a ≤ x.Y; omega
theorem f64_in {N : Nat} {p : Label} {c : Cut} (hs : Small p) (hc : inner c p = true) : f64 N p c = some (half1 p c, half2 p c, true) := by
  have s1 := hs.x0; have s2 := hs.y0; have s3 := hs.x1; have s4 := hs.y1; have s5 := hs.w; have s6 := hs.h
  obtain ⟨up, a⟩ := c
  unfold inner at hc
  have hc2 := hc
  rw [Bool.and_eq_true, decide_eq_true_iff, decide_eq_true_iff] at hc2
  unfold f64
  cases up with
  | true =>
    have hc2 : p.X + 1 ≤ a ∧ a ≤ p.X + p.W - 1 := hc2
    simp only [cond_true, f56_eq, Option.bind_some]
    rw [W_in (n := p.X + p.W) (by omega) (by omega), W_in (n := p.X + 1) (by omega) (by omega), W_in (n := p.X + p.W - 1) (by omega) (by omega), W_in (n := a - p.X) (by omega) (by omega), W_in (n := p.X + p.W - a) (by omega) (by omega), decide_eq_true hc2.1, decide_eq_true hc2.2]
    rfl
  | false =>
    have hc2 : p.Y + 1 ≤ a ∧ a ≤ p.Y + p.H - 1 := hc2
    simp only [cond_false, f56_eq, Option.bind_some]
    rw [W_in (n := p.Y + p.H) (by omega) (by omega), W_in (n := p.Y + 1) (by omega) (by omega), W_in (n := p.Y + p.H - 1) (by omega) (by omega), W_in (n := a - p.Y) (by omega) (by omega), W_in (n := p.Y + p.H - a) (by omega) (by omega), decide_eq_true hc2.1, decide_eq_true hc2.2]
    rfl
theorem f64_out {N : Nat} {p : Label} {c : Cut} (hs : Small p) (hc : inner c p = false) : ∃ a b, f64 N p c = some (a, b, false) := by
  have s1 := hs.x0; have s2 := hs.y0; have s3 := hs.x1; have s4 := hs.y1; have s5 := hs.w; have s6 := hs.h
  obtain ⟨up, a⟩ := c
  unfold f64
  cases up with
  | true =>
    have hc : (decide (p.X + 1 ≤ a) && decide (a ≤ p.X + p.W - 1)) = false := hc
    simp only [cond_true, f56_eq, Option.bind_some]
    rw [W_in (n := p.X + p.W) (by omega) (by omega), W_in (n := p.X + 1) (by omega) (by omega), W_in (n := p.X + p.W - 1) (by omega) (by omega)]
    exact ⟨_, _, by rw [hc]⟩
  | false =>
    have hc : (decide (p.Y + 1 ≤ a) && decide (a ≤ p.Y + p.H - 1)) = false := hc
    simp only [cond_false, f56_eq, Option.bind_some]
    rw [W_in (n := p.Y + p.H) (by omega) (by omega), W_in (n := p.Y + 1) (by omega) (by omega), W_in (n := p.Y + p.H - 1) (by omega) (by omega)]
    exact ⟨_, _, by rw [hc]⟩
theorem count_split {f g : Label → Bool} : ∀ (l : List Label), (∀ x, x ∈ l → f x = true → g x = false) → (l.filter f).length + (l.filter g).length ≤ l.length ∧ (((l.filter f).length + (l.filter g).length = l.length) ↔ l.all (fun x => f x || g x) = true)
  | [], _ => by simp
  | x :: r, h => by
    obtain ⟨h1, h2⟩ := count_split r fun y hy => h y (by simp [hy])
    have hx := h x (by simp)
    simp only [List.filter_cons, List.all_cons, Bool.and_eq_true]
    cases hf : f x with
    | true =>
      rw [hx hf]
      simp only [Bool.false_eq_true, if_false, if_true, List.length_cons, Bool.true_or, true_and]
      exact ⟨by omega, by rw [← h2]; omega⟩
    | false =>
      cases hg : g x with
      | true =>
        simp only [Bool.false_eq_true, if_false, if_true, List.length_cons, Bool.false_or, true_and]
        exact ⟨by omega, by rw [← h2]; omega⟩
      | false =>
        simp only [Bool.false_eq_true, if_false, List.length_cons, Bool.or_self, false_and, iff_false]
        exact ⟨by omega, by omega⟩
theorem any_filter {f : Label → Bool} {l : List Label} : l.any f = decide (0 < (l.filter f).length) := by
  rw [Bool.eq_iff_iff, List.any_eq_true, decide_eq_true_eq]
  constructor
  · rintro ⟨x, hx, hf⟩; exact List.length_pos_of_mem (List.mem_filter.2 ⟨hx, hf⟩)
  · intro h
    obtain ⟨x, hx⟩ := List.exists_mem_of_length_pos h
    exact ⟨x, (List.mem_filter.1 hx).1, (List.mem_filter.1 hx).2⟩
theorem filter_congr' {f g : Label → Bool} {l : List Label} (h : ∀ x, x ∈ l → f x = g x) : l.filter f = l.filter g := List.filter_congr h
theorem f63_eq {N : Nat} {p : Label} {l : List Label} {c : Cut} (hs : Small p) (hf : ∀ x, x ∈ l → Fits p x) (hl : l.length ≤ 30) (hN : 30 < N) : f63 N l p c = some (isCut p l c) := by
  unfold f63
  cases hin : inner c p with
  | false =>
    obtain ⟨a, b, h⟩ := f64_out (N := N) hs hin
    simp only [h, Option.bind_some]
    simp [isCut, hin]
  | true =>
    simp only [f64_in hs hin, Option.bind_some, f62_eq hl hN]
    have e1 : l.filter (insideB (half1 p c)) = l.filter (before c) := filter_congr' fun x hx => inside_half1 hs (hf x hx) hin
    have e2 : l.filter (insideB (half2 p c)) = l.filter (behind c) := filter_congr' fun x hx => inside_half2 hs (hf x hx) hin
    have hcs := count_split (f := before c) (g := behind c) l fun x hx hb => not_both (hf x hx) hb
    rw [e1, e2]
    simp only [Bool.not_true, cond_false, isCut, hin, Bool.true_and]
    have hle := hcs.1
    rw [W_in (by omega) (by omega)]
    have hall : l.all (fun x => before c x || behind c x) = decide (((l.filter (before c)).length : Int) + ((l.filter (behind c)).length : Int) = (l.length : Int)) := by
      rw [Bool.eq_iff_iff, ← hcs.2, decide_eq_true_eq]; omega
    have hany : l.any (before c) = decide (0 < ((l.filter (before c)).length : Int)) := by
      rw [any_filter, Bool.eq_iff_iff, decide_eq_true_eq, decide_eq_true_eq]; omega
    cases ha : l.all (fun x => before c x || behind c x) with
    | false =>
      rw [ha] at hall
      rw [← hall]
      cases decide (0 < ((l.filter (before c)).length : Int)) <;> cases decide (0 < ((l.filter (behind c)).length : Int)) <;> rfl
    | true =>
      rw [ha] at hall
      rw [← hall, ← hany]
      have hb : l.any (fun x => !before c x) = decide (0 < ((l.filter (behind c)).length : Int)) := by
        rw [any_filter, Bool.eq_iff_iff, decide_eq_true_eq, decide_eq_true_eq]
        have : l.filter (fun x => !before c x) = l.filter (behind c) := filter_congr' fun x hx => by
          have := List.all_eq_true.1 ha x hx
          cases hbx : before c x with
          | true => rw [not_both (hf x hx) hbx]; rfl
          | false => rw [hbx] at this; simpa using this.symm
        rw [this]; omega
      rw [hb]
      cases l.any (before c) <;> cases decide (0 < ((l.filter (behind c)).length : Int)) <;> rfl
theorem isCut_12 {p : Label} {l : List Label} {up : Bool} (hs : Small p) : isCut p l ⟨up, ((12 : Nat) : Int)⟩ = false := by
  have s3 := hs.x1; have s4 := hs.y1
  have : inner ⟨up, ((12 : Nat) : Int)⟩ p = false := by
    unfold inner
    rw [Bool.and_eq_false_iff]
    right
    rw [decide_eq_false_iff_not]
    cases up <;> simp only [hi, cond_true, cond_false] <;> omega
  unfold isCut; rw [this]; rfl
theorem f46_eq {N : Nat} {p : Label} {l : List Label} (hs : Small p) (hf : ∀ x, x ∈ l → Fits p x) (hl : l.length ≤ 30) (hN : 30 < N) : f46 N l p = some (cutsL p l) := by
  have h13 : ∀ up, ((List.range' 0 13).filter fun i : Nat => isCut p l ⟨up, (i : Int)⟩).map (fun i : Nat => (⟨up, (i : Int)⟩ : Cut)) = lineCuts up p l := by
    intro up
    unfold lineCuts
    rw [show List.range' 0 13 = List.range' 0 12 ++ [12] from rfl, List.filter_append, List.map_append]
    rw [List.filter_cons, isCut_12 hs]
    simp
  have h8 : ∀ (s : List Cut), s.length ≤ 100 → f46_c7 l p N s = some (s ++ lineCuts false p l) := by
    intro s hsl
    have := loopN (F := fun n (s : List Cut) j => f46_8 l p N f46_c12 n s j) (g := fun i (s : List Cut) c => bif isCut p l ⟨false, (i : Int)⟩ then (app 16 s [⟨false, (i : Int)⟩]).bind c else c s) (k := f46_c12) 0 13 (by omega)
      (fun n s i _ hi => by
        simp only [f46_8, f46_8b, decide_eq_true (show (i : Int) ≤ 12 by omega), cond_true, f63_eq (c := ⟨false, (i : Int)⟩) hs hf hl hN, Option.bind_some, W_nat (show i < 9223372036854775807 by omega)])
      (fun n s => rfl) N s (by omega)
    refine this.trans ?_
    rw [forK_filter _ _ _ (by omega), h13]
    rfl
  show f46_3 l p N (f46_c7 l p N) N [] (0 : Int) = _
  have := loopN (F := fun n (s : List Cut) j => f46_3 l p N (f46_c7 l p N) n s j) (g := fun i (s : List Cut) c => bif isCut p l ⟨true, (i : Int)⟩ then (app 16 s [⟨true, (i : Int)⟩]).bind c else c s) (k := f46_c7 l p N) 0 13 (by omega)
    (fun n s i _ hi => by
      simp only [f46_3, f46_3b, decide_eq_true (show (i : Int) ≤ 12 by omega), cond_true, f63_eq (c := ⟨true, (i : Int)⟩) hs hf hl hN, Option.bind_some, W_nat (show i < 9223372036854775807 by omega)])
    (fun n s => rfl) N [] (by omega)
  refine this.trans ?_
  rw [forK_filter _ _ _ (by simp), h13, h8 _ (by
    have : (lineCuts true p l).length ≤ 12 := by
      unfold lineCuts; rw [List.length_map]; exact Nat.le_trans (List.length_filter_le _ _) (by simp)
    simpa using Nat.le_trans this (by omega))]
  rfl

/-! Valid layouts. -/
def sheetOf (L : Layout) : Label := ⟨0, 0, L.W, L.H⟩
structure Valid (L : Layout) : Prop where
  small : Small (sheetOf L)
  w : 1 ≤ L.W
  h : 1 ≤ L.H
  len : L.Labels.length ≤ 10
  fits : ∀ x, x ∈ L.Labels → Fits (sheetOf L) x
  clash : clashes [] L.Labels = false
theorem okLabel_fits {L : Layout} {x : Label} (hw : 1 ≤ L.W ∧ L.W ≤ 12) (hh : 1 ≤ L.H ∧ L.H ≤ 12) (h : okLabel L x = none) : Fits (sheetOf L) x := by
  unfold okLabel at h
  split at h; · cases h
  split at h; · cases h
  split at h; · cases h
  split at h; · cases h
  rename_i h1 h2 h3 h4
  rw [W_in (by omega) (by omega), W_in (by omega) (by omega)] at h
  split at h; · cases h
  split at h; · cases h
  rename_i h5 h6
  exact ⟨by omega, by omega, by simp only [sheetOf]; omega, by simp only [sheetOf]; omega, by simp only [sheetOf]; omega, by simp only [sheetOf]; omega⟩
theorem valid_of {L : Layout} (h : checkS L = 0) : Valid L := by
  unfold checkS at h
  split at h; · cases h
  split at h; · cases h
  split at h; · cases h
  rename_i h1 h2 h3
  have hw : 1 ≤ L.W ∧ L.W ≤ 12 := Classical.not_not.1 h1
  have hh : 1 ≤ L.H ∧ L.H ≤ 12 := Classical.not_not.1 h2
  cases hfs : L.Labels.findSome? (okLabel L) with
  | some e =>
    rw [hfs] at h
    exfalso
    obtain ⟨x, hx, he⟩ := List.exists_of_findSome?_eq_some hfs
    simp only [Option.getD_some] at h
    subst h
    unfold okLabel at he
    repeat' (split at he)
    all_goals cases he
  | none =>
    rw [hfs] at h
    have hall := List.findSome?_eq_none_iff.1 hfs
    refine ⟨⟨by simp [sheetOf], by simp [sheetOf], by simp only [sheetOf]; omega, by simp only [sheetOf]; omega, by simp only [sheetOf]; omega, by simp only [sheetOf]; omega⟩, hw.1, hh.1, by omega, fun x hx => okLabel_fits hw hh (hall x hx), ?_⟩
    cases hc : clashes [] L.Labels with
    | false => rfl
    | true => rw [hc] at h; cases h
def cutsS (L : Layout) : List Cut × Int := if checkS L = 0 then (cutsL (sheetOf L) L.Labels, 0) else ([], checkS L)
theorem f15_eq {N : Nat} {L : Layout} (h : L.Labels.length ≤ 30) (hN : 30 < N) : f15 N L = some (cutsS L) := by
  unfold f15 cutsS
  simp only [f20_eq h hN, Option.bind_some]
  by_cases c : checkS L = 0
  · have hv := valid_of c
    simp only [c, not_true_eq_false, decide_false, cond_false, if_true, f44, Option.bind_some]
    have := f45_eq (p := sheetOf L) hv.small hv.fits h hN
    simp only [sheetOf] at this ⊢
    rw [this]; rfl
  · simp [c]
theorem f16_eq {N : Nat} {L : Layout} (h : L.Labels.length ≤ 30) (hN : 30 < N) : f16 N L = some (cutsS L) := by
  unfold f16 cutsS
  simp only [f21_eq h hN, Option.bind_some]
  by_cases c : checkS L = 0
  · have hv := valid_of c
    simp only [c, not_true_eq_false, decide_false, cond_false, if_true, f47, Option.bind_some]
    have := f46_eq (p := sheetOf L) hv.small hv.fits h hN
    simp only [sheetOf] at this ⊢
    rw [this]; rfl
  · simp [c]

theorem fold_skip {α ρ : Type} {k : Option ρ} : ∀ (l : List α) (i : Nat), foldK (fun _ (x : α) (_ : Unit) c => c ()) (fun _ => k) i l () = k
  | [], _ => rfl
  | x :: r, i => by simp only [foldK]; exact fold_skip r (i + 1)
theorem f3_true (a : Layout) (ks : List Kind) (hw : f13 40 = some true) : f3 40 a ks = some true := by
  unfold f3
  by_cases c1 : 30 < (a.Labels.length : Int)
  · simp [c1, hw]
  by_cases c2 : 30 < (ks.length : Int)
  · simp [c1, c2, hw]
  have h1 : a.Labels.length ≤ 30 := by omega
  have h2 : ks.length ≤ 30 := by omega
  simp only [c1, c2, decide_false, cond_false, f14_eq (N := 40) h1 (by omega), f19_eq (N := 40) h2 (by omega), f15_eq h1 (show 30 < 40 by omega), f16_eq h1 (show 30 < 40 by omega), f17_eq h1 h2 (show 30 < 40 by omega), f18_eq h1 h2 (show 30 < 40 by omega), Option.bind_some, not_true_eq_false, joinK]
  have hlen : (cutsS a).1.length ≤ 24 := by
    unfold cutsS
    split
    · have : ∀ up, (lineCuts up (sheetOf a) a.Labels).length ≤ 12 := by
        intro up; unfold lineCuts; rw [List.length_map]; exact Nat.le_trans (List.length_filter_le _ _) (by simp)
      simp only [cutsL, List.length_append]
      have h1 := this true; have h2 := this false; omega
    · simp
  have := loopL (l := (cutsS a).1) (F := fun n (_ : Unit) j => f3_11 a a (cutsS a) (cutsS a) (f3_c15 a 40 a) n j) (g := fun _ x (_ : Unit) c => c ()) (k := fun _ => f3_c15 a 40 a)
    (fun n s j x hx => by
      have hi := (List.getElem?_eq_some_iff.1 hx).1
      simp only [f3_11, f3_11b, ix_nat, hx, Option.bind_some, decide_eq_true (show (j : Int) < ((cutsS a).1.length : Int) by omega), cond_true, W_nat (show j < 9223372036854775807 by omega), beq_self_eq_true, decide_true, Bool.and_self, Bool.not_true, cond_false])
    (fun n s => by simp [f3_11, f3_11b]) 40 () (by omega)
  refine this.trans ?_
  rw [fold_skip]
  unfold f3_c15
  simp [f20_eq h1 (show 30 < 40 by omega), f21_eq h1 (show 30 < 40 by omega), hw]
end Go.Vc
namespace Go.Vc
open Go.Proofs
set_option linter.unusedVariables false
set_option linter.unnecessarySimpa false
set_option linter.unusedSimpArgs false
def f59b (self : (List Label) → Label → Option (Bool)) (N : Nat) (a0 : List Label) (a1 : Label) : Option (Bool) :=
 bif decide ((List.length a0 : Int) < (2 : Int)) then (some (true))
 else ((f46 N a0 a1).bind fun x1 =>
 bif decide ((List.length x1 : Int) = (0 : Int)) then (some (false))
 else ((ix x1 (0 : Int)).bind fun x2 =>
 (f64 N a1 x2).bind fun x3 =>
 (f62 N a0 x3.1).bind fun x4 =>
 (self x4 x3.1).bind fun x5 =>
 bif x5 then ((f62 N a0 x3.2.1).bind fun x6 =>
 (self x6 x3.2.1).bind fun x7 =>
 some (x7))
 else (some (false))))
def f59 : Nat → (List Label) → Label → Option (Bool)
  | 0, _, _ => none
  | N + 1, a0, a1 => f59b (f59 N) N a0 a1
end Go.Vc
namespace Go.Vc
open Go.Proofs
set_option linter.unusedVariables false
set_option linter.unnecessarySimpa false
set_option linter.unusedSimpArgs false
def f23 (N : Nat) (a0 : Layout) : Option (Int) :=
 (f21 N a0).bind fun x1 =>
 bif decide (x1 = (0 : Int)) then ((f47 N a0).bind fun x2 =>
 (f59 N a0.Labels x2).bind fun x3 =>
 bif !x3 then (some ((14 : Int)))
 else (some (x1)))
 else (some (x1))
end Go.Vc
namespace Go.Vc
open Go.Proofs
set_option linter.unusedVariables false
set_option linter.unnecessarySimpa false
set_option linter.unusedSimpArgs false
def f26_c18 (a1 : List Cut) (v7 : Int) : Option (Int) :=
 bif decide (v7 < (List.length a1 : Int)) then (some ((21 : Int)))
 else (some ((0 : Int)))
def f26_6b (r6 : (List Label) → Int → Option (Int)) (a0 : Layout) (a1 : List Cut) (N : Nat) (k0 : Int → Option (Int)) (v6 : List Label) (v7 : Int) : Option (Int) :=
 bif decide ((0 : Int) < (List.length v6 : Int)) then ((ix v6 (W ((List.length v6 : Int) - (1 : Int)))).bind fun x3 =>
 (sub v6 0 (W ((List.length v6 : Int) - (1 : Int)))).bind fun x4 =>
 (f62 N a0.Labels x3).bind fun x5 =>
 bif decide ((List.length x5 : Int) < (2 : Int)) then (r6 x4 v7)
 else (bif decide (v7 = (List.length a1 : Int)) then (some ((22 : Int)))
 else ((ix a1 v7).bind fun x6 =>
 (f63 N x5 x3 x6).bind fun x7 =>
 bif !x7 then (some ((13 : Int)))
 else ((ix a1 v7).bind fun x8 =>
 (f64 N x3 x8).bind fun x9 =>
 (app 32 x4 [x9.2.1, x9.1]).bind fun x10 =>
 r6 x10 (W (v7 + (1 : Int)))))))
 else (k0 v7)
def f26_6 (a0 : Layout) (a1 : List Cut) (N : Nat) (k0 : Int → Option (Int)) : Nat → (List Label) → Int → Option (Int)
  | 0, _, _ => none
  | n + 1, v6, v7 => f26_6b (f26_6 a0 a1 N k0 n) a0 a1 N k0 v6 v7
def f26 (N : Nat) (a0 : Layout) (a1 : List Cut) : Option (Int) :=
 (f21 N a0).bind fun x1 =>
 bif decide (¬ x1 = (0 : Int)) then (some (x1))
 else ((f47 N a0).bind fun x2 =>
 joinK (f26_c18 a1) fun k0 =>
 f26_6 a0 a1 N k0 N [x2] (0 : Int))
end Go.Vc
namespace Go.Vc
open Go.Proofs
set_option linter.unusedVariables false
set_option linter.unnecessarySimpa false
set_option linter.unusedSimpArgs false
def f65_c10 : Option (Bool) :=
 some (false)
def f65_5b (r5 : Int → Option (Bool)) (a0 : List Label) (a1 : Label) (a2 : Label) (N : Nat) (self : (List Label) → Label → Label → Option (Bool)) (x1 : List Cut) (k0 : Option (Bool)) (i8 : Int) : Option (Bool) :=
 bif decide (i8 < (List.length x1 : Int)) then ((ix x1 i8).bind fun x2 =>
 (f64 N a1 x2).bind fun x3 =>
 (f62 N a0 x3.1).bind fun x4 =>
 (self x4 x3.1 a2).bind fun x5 =>
 bif x5 then (some (true))
 else ((f62 N a0 x3.2.1).bind fun x6 =>
 (self x6 x3.2.1 a2).bind fun x7 =>
 bif x7 then (some (true))
 else (r5 (W (i8 + (1 : Int))))))
 else k0
def f65_5 (a0 : List Label) (a1 : Label) (a2 : Label) (N : Nat) (self : (List Label) → Label → Label → Option (Bool)) (x1 : List Cut) (k0 : Option (Bool)) : Nat → Int → Option (Bool)
  | 0, _ => none
  | n + 1, i8 => f65_5b (f65_5 a0 a1 a2 N self x1 k0 n) a0 a1 a2 N self x1 k0 i8
def f65b (self : (List Label) → Label → Label → Option (Bool)) (N : Nat) (a0 : List Label) (a1 : Label) (a2 : Label) : Option (Bool) :=
 bif (decide (a1.X = a2.X) && (decide (a1.Y = a2.Y) && (decide (a1.W = a2.W) && (decide (a1.H = a2.H) && true)))) then (some (true))
 else ((f46 N a0 a1).bind fun x1 =>
 joinK f65_c10 fun k0 =>
 f65_5 a0 a1 a2 N self x1 k0 N (0 : Int))
def f65 : Nat → (List Label) → Label → Label → Option (Bool)
  | 0, _, _, _ => none
  | N + 1, a0, a1, a2 => f65b (f65 N) N a0 a1 a2
end Go.Vc
namespace Go.Vc
open Go.Proofs
set_option linter.unusedVariables false
set_option linter.unnecessarySimpa false
set_option linter.unusedSimpArgs false
def f28 (N : Nat) (a0 : Layout) (a1 : Label) : Option (Bool) :=
 (f62 N a0.Labels a1).bind fun x1 =>
 bif decide ((1 : Int) < (List.length x1 : Int)) then ((f46 N x1 a1).bind fun x2 =>
 bif decide ((List.length x2 : Int) = (0 : Int)) then ((f47 N a0).bind fun x3 =>
 (f65 N a0.Labels x3 a1).bind fun x4 =>
 some (x4))
 else (some (false)))
 else (some (false))
end Go.Vc
/-
  PLAIN LAWS OF CUT, 5: plans, as a recursion over pieces.
-/
namespace Go.Vc
set_option linter.unusedVariables false
set_option linter.unnecessarySimpa false
set_option linter.unusedSimpArgs false
set_option linter.unusedSimpArgs false

/-! Pieces of a cut. -/
theorem isCut_parts {p : Label} {l : List Label} {c : Cut} (h : isCut p l c = true) : inner c p = true ∧ (∀ x, x ∈ l → (before c x || behind c x) = true) ∧ (∃ x, x ∈ l ∧ before c x = true) ∧ ∃ x, x ∈ l ∧ before c x = false := by
  unfold isCut at h
  simp only [Bool.and_eq_true] at h
  obtain ⟨h1, h2, h3, h4⟩ := h
  refine ⟨h1, fun x hx => List.all_eq_true.1 h2 x hx, ?_, ?_⟩
  · obtain ⟨x, hx, hb⟩ := List.any_eq_true.1 h3; exact ⟨x, hx, hb⟩
  · obtain ⟨x, hx, hb⟩ := List.any_eq_true.1 h4; exact ⟨x, hx, by simpa using hb⟩
theorem small_half1 {p : Label} {c : Cut} (hs : Small p) (hc : inner c p = true) : Small (half1 p c) := by
  have s1 := hs.x0; have s2 := hs.y0; have s3 := hs.x1; have s4 := hs.y1; have s5 := hs.w; have s6 := hs.h
  obtain ⟨up, a⟩ := c
  unfold inner at hc
  rw [Bool.and_eq_true, decide_eq_true_iff, decide_eq_true_iff] at hc
  cases up with
  | true =>
    have hc : p.X + 1 ≤ a ∧ a ≤ p.X + p.W - 1 := hc
    exact ⟨s1, s2, by show p.X + (a - p.X) ≤ 12; omega, s4, by show 0 ≤ a - p.X; omega, s6⟩
  | false =>
    have hc : p.Y + 1 ≤ a ∧ a ≤ p.Y + p.H - 1 := hc
    exact ⟨s1, s2, s3, by show p.Y + (a - p.Y) ≤ 12; omega, s5, by show 0 ≤ a - p.Y; omega⟩
theorem small_half2 {p : Label} {c : Cut} (hs : Small p) (hc : inner c p = true) : Small (half2 p c) := by
  have s1 := hs.x0; have s2 := hs.y0; have s3 := hs.x1; have s4 := hs.y1; have s5 := hs.w; have s6 := hs.h
  obtain ⟨up, a⟩ := c
  unfold inner at hc
  rw [Bool.and_eq_true, decide_eq_true_iff, decide_eq_true_iff] at hc
  cases up with
  | true =>
    have hc : p.X + 1 ≤ a ∧ a ≤ p.X + p.W - 1 := hc
    exact ⟨by show 0 ≤ a; omega, s2, by show a + (p.X + p.W - a) ≤ 12; omega, s4, by show 0 ≤ p.X + p.W - a; omega, s6⟩
  | false =>
    have hc : p.Y + 1 ≤ a ∧ a ≤ p.Y + p.H - 1 := hc
    exact ⟨s1, by show 0 ≤ a; omega, s3, by show a + (p.Y + p.H - a) ≤ 12; omega, s5, by show 0 ≤ p.Y + p.H - a; omega⟩
theorem fits_half1 {p x : Label} {c : Cut} (hx : Fits p x) (hb : before c x = true) : Fits (half1 p c) x := by
  have t1 := hx.w; have t2 := hx.h; have t3 := hx.x0; have t4 := hx.y0; have t5 := hx.x1; have t6 := hx.y1
  obtain ⟨up, a⟩ := c
  rw [before_iff] at hb
  cases up with
  | true =>
    have hb : x.X + x.W ≤ a := hb
    exact ⟨t1, t2, t3, t4, by show x.X + x.W ≤ p.X + (a - p.X); omega, t6⟩
  | false =>
    have hb : x.Y + x.H ≤ a := hb
    exact ⟨t1, t2, t3, t4, t5, by show x.Y + x.H ≤ p.Y + (a - p.Y); omega⟩
theorem fits_half2 {p x : Label} {c : Cut} (hx : Fits p x) (hb : behind c x = true) : Fits (half2 p c) x := by
  have t1 := hx.w; have t2 := hx.h; have t3 := hx.x0; have t4 := hx.y0; have t5 := hx.x1; have t6 := hx.y1
  obtain ⟨up, a⟩ := c
  rw [behind_iff] at hb
  cases up with
  | true =>
    have hb : a ≤ x.X := hb
    exact ⟨t1, t2, hb, t4, by show x.X + x.W ≤ a + (p.X + p.W - a); omega, t6⟩
  | false =>
    have hb : a ≤ x.Y := hb
    exact ⟨t1, t2, t3, hb, t5, by show x.Y + x.H ≤ a + (p.Y + p.H - a); omega⟩
/-- a piece with its labels -/
structure Pc (p : Label) (l : List Label) : Prop where
  small : Small p
  fits : ∀ x, x ∈ l → Fits p x
theorem Pc.half1 {p : Label} {l : List Label} {c : Cut} (h : Pc p l) (hc : isCut p l c = true) : Pc (half1 p c) (l.filter (before c)) :=
  ⟨small_half1 h.small (isCut_parts hc).1, fun x hx => fits_half1 (h.fits x (List.mem_filter.1 hx).1) (List.mem_filter.1 hx).2⟩
theorem behind_of {p : Label} {l : List Label} {c : Cut} (hc : isCut p l c = true) {x : Label} (hx : x ∈ l) (hb : before c x = false) : behind c x = true := by
  have := (isCut_parts hc).2.1 x hx
  rw [hb] at this; simpa using this
theorem Pc.half2 {p : Label} {l : List Label} {c : Cut} (h : Pc p l) (hc : isCut p l c = true) : Pc (half2 p c) (l.filter fun x => !before c x) :=
  ⟨small_half2 h.small (isCut_parts hc).1, fun x hx => fits_half2 (h.fits x (List.mem_filter.1 hx).1) (behind_of hc (List.mem_filter.1 hx).1 (by simpa using (List.mem_filter.1 hx).2))⟩
theorem Pc.perm {p : Label} {l l' : List Label} (h : Pc p l) (hp : l'.Perm l) : Pc p l' := ⟨h.small, fun x hx => h.fits x (hp.mem_iff.1 hx)⟩
theorem split_len {l : List Label} (f : Label → Bool) : (l.filter f).length + (l.filter fun x => !f x).length = l.length := by
  induction l with
  | nil => rfl
  | cons x r ih => simp only [List.filter_cons]; cases f x <;> simp <;> omega
theorem cut_lens {p : Label} {l : List Label} {c : Cut} (hc : isCut p l c = true) : 1 ≤ (l.filter (before c)).length ∧ 1 ≤ (l.filter fun x => !before c x).length := by
  obtain ⟨_, _, ⟨x, hx, hb⟩, ⟨y, hy, hb'⟩⟩ := isCut_parts hc
  exact ⟨List.length_pos_of_mem (List.mem_filter.2 ⟨hx, hb⟩), List.length_pos_of_mem (List.mem_filter.2 ⟨hy, by rw [hb']; rfl⟩)⟩
theorem mem_cutsL {p : Label} {l : List Label} {c : Cut} (h : c ∈ cutsL p l) : isCut p l c = true := by
  unfold cutsL lineCuts at h
  rw [List.mem_append] at h
  rcases h with h | h <;> (obtain ⟨i, hi, rfl⟩ := List.mem_map.1 h; exact (List.mem_filter.1 hi).2)
theorem cutsL_perm {p : Label} {l l' : List Label} (h : l.Perm l') : cutsL p l = cutsL p l' := by
  unfold cutsL lineCuts
  simp only [isCut_perm h]
theorem cutsL_len {p : Label} {l : List Label} : (cutsL p l).length ≤ 24 := by
  have : ∀ up, (lineCuts up p l).length ≤ 12 := by
    intro up; unfold lineCuts; rw [List.length_map]; exact Nat.le_trans (List.length_filter_le _ _) (by simp)
  simp only [cutsL, List.length_append]
  have h1 := this true; have h2 := this false; omega

/-- the plan: the first cut, then the pieces; and the piece that is blocked -/
def planR : Nat → Label → List Label → List Cut × Option Label
  | 0, _, _ => ([], none)
  | m + 1, p, l => if l.length < 2 then ([], none) else match cutsL p l with
    | [] => ([], some p)
    | c :: _ => match planR m (half1 p c) (l.filter (before c)) with
      | (cs, some q) => (c :: cs, some q)
      | (cs, none) => (c :: (cs ++ (planR m (half2 p c) (l.filter fun x => !before c x)).1), (planR m (half2 p c) (l.filter fun x => !before c x)).2)
theorem planR_perm : ∀ (m : Nat) {p : Label} {l l' : List Label}, l.Perm l' → planR m p l = planR m p l'
  | 0, _, _, _, _ => rfl
  | m + 1, p, l, l', h => by
    simp only [planR, h.length_eq, cutsL_perm h]
    split
    · rfl
    · cases cutsL p l' with
      | nil => rfl
      | cons c r => simp only [planR_perm m (h.filter (before c)), planR_perm m (h.filter fun x => !before c x)]

/-! Stacks. -/
theorem stk {α : Type} {r : List α} {x : α} (h : r.length ≤ 1000) : decide ((0 : Int) < ((r ++ [x]).length : Int)) = true ∧ W (((r ++ [x]).length : Int) - (1 : Int)) = (r.length : Int) ∧ ix (r ++ [x]) (r.length : Int) = some x ∧ sub (r ++ [x]) 0 (r.length : Int) = some r := by
  refine ⟨by simp, ?_, by simp [ix_nat], ?_⟩
  · rw [W_in (by simp only [List.length_append, List.length_singleton]; omega) (by simp only [List.length_append, List.length_singleton]; omega)]
    simp only [List.length_append, List.length_singleton]; omega
  · exact (sub_nat (a := 0) (by omega) (by simp)).trans (by simp)
def blank : Piece := ⟨⟨0, 0, 0, 0⟩, []⟩
theorem f58_stack {N : Nat} {a : Layout} {k0 : List Cut → Option (List Cut × Piece × Bool)} (hN : 30 < N) : ∀ (m : Nat) (p : Label) (l l' : List Label), l'.Perm l → Pc p l → 1 ≤ l.length → l.length ≤ m → l.length ≤ 30 → ∀ (rest : List Piece) (pl : List Cut) (n j : Nat), rest.length + l.length ≤ 100 → pl.length + l.length ≤ 100 →
    2 * l.length - 1 + j ≤ n → (match (planR m p l).2 with
      | none => ∃ n', j ≤ n' ∧ f58_i102_2 a N k0 n (rest ++ [⟨p, l'⟩]) pl = f58_i102_2 a N k0 n' rest (pl ++ (planR m p l).1) ∧ (planR m p l).1.length + 1 = l.length
      | some q => ∃ l2, f58_i102_2 a N k0 n (rest ++ [⟨p, l'⟩]) pl = some (pl ++ (planR m p l).1, ⟨q, l2⟩, false)) := by
  intro m
  induction m with
  | zero => intro p l l' _ _ h1 h2; omega
  | succ m ih =>
    intro p l l' hp hpc h1 hm h30 rest pl n j hr hpl hn
    obtain ⟨n, rfl⟩ : ∃ k, n = k + 1 := ⟨n - 1, by omega⟩
    obtain ⟨e1, e2, e3, e4⟩ := stk (r := rest) (x := (⟨p, l'⟩ : Piece)) (by omega)
    have hlen := hp.length_eq
    simp only [planR]
    by_cases h2 : l.length < 2
    · rw [if_pos h2]
      refine ⟨n, by omega, ?_, by simp only [List.length_nil]; omega⟩
      simp only [f58_i102_2, f58_i102_2b, e1, cond_true, e2, e3, e4, Option.bind_some, decide_eq_true (show (l'.length : Int) < 2 by omega), List.append_nil]
    · rw [if_neg h2]
      have hpc' := hpc.perm hp
      have hcut : f45 N ⟨p, l'⟩ = some (cutsL p l) := by rw [f45_eq hpc'.small hpc'.fits (by omega) hN, cutsL_perm hp]
      cases hcs : cutsL p l with
      | nil =>
        obtain ⟨r, hr1, hr2⟩ := f69_ok (N := N) (p := p) (l := l') (c := ⟨false, 0⟩) hpc'.small hpc'.fits (by omega) hN
        refine ⟨l', ?_⟩
        simp only [f58_i102_2, f58_i102_2b, e1, cond_true, e2, e3, e4, Option.bind_some, decide_eq_false (show ¬ (l'.length : Int) < 2 by omega), cond_false, joinK, hcut, hcs, List.length_nil]
        simp only [Int.ofNat_eq_natCast, Int.natCast_zero, decide_true, cond_true, f58_i102_c7, hr1, Option.bind_some, Bool.not_false, List.append_nil]
      | cons c cr =>
        have hc : isCut p l c = true := mem_cutsL (by rw [hcs]; simp)
        have hc' : isCut p l' c = true := by rw [isCut_perm hp]; exact hc
        obtain ⟨r, hr1, hr2⟩ := f69_ok (N := N) (c := c) hpc'.small hpc'.fits (by omega) hN
        have g1 := hr2.is; have g2 := hr2.l1 hc'; have g3 := hr2.l2 hc'; have g4 := hr2.p1 hc'; have g5 := hr2.p2 hc'
        rw [hc'] at g1
        have q1 := g4.trans (hp.filter (before c))
        have q2 := g5.trans (hp.filter fun x => !before c x)
        have hsplit := split_len (l := l) (before c)
        obtain ⟨w1, w2⟩ := cut_lens hc
        have step : f58_i102_2 a N k0 (n + 1) (rest ++ [⟨p, l'⟩]) pl = f58_i102_2 a N k0 n (rest ++ [r.2.1] ++ [r.1]) (pl ++ [c]) := by
          simp only [f58_i102_2, f58_i102_2b, e1, cond_true, e2, e3, e4, Option.bind_some, decide_eq_false (show ¬ (l'.length : Int) < 2 by omega), cond_false, joinK, hcut, hcs]
          rw [decide_eq_false (show ¬ ((c :: cr).length : Int) = 0 by simp only [List.length_cons]; omega), cond_false]
          rw [show ix (c :: cr) (0 : Int) = some c from rfl]
          simp only [Option.bind_some]
          rw [app_ok (by simp; omega) (by simp; omega)]
          simp only [Option.bind_some, f58_i102_c7, hr1, Bool.not_true, cond_false, g1]
          rw [app_ok (by simp; omega) (by simp; omega)]
          simp only [Option.bind_some, List.append_assoc, List.singleton_append, List.cons_append, List.nil_append]
        have hr1e : r.1 = ⟨half1 p c, r.1.labels⟩ := by rw [← g2]
        have hr2e : r.2.1 = ⟨half2 p c, r.2.1.labels⟩ := by rw [← g3]
        have ih1 := ih (half1 p c) (l.filter (before c)) r.1.labels q1 (hpc.half1 hc) w1 (by omega) (by omega) (rest ++ [r.2.1]) (pl ++ [c]) n (2 * (l.filter fun x => !before c x).length - 1 + j) (by simp; omega) (by simp; omega) (by omega)
        rw [← hr1e] at ih1
        simp only
        cases hA : planR m (half1 p c) (l.filter (before c)) with
        | mk cs1 o1 =>
          rw [hA] at ih1
          cases o1 with
          | some q =>
            simp only at ih1 ⊢
            obtain ⟨l2, ih1⟩ := ih1
            exact ⟨l2, by rw [step, ih1]; simp⟩
          | none =>
            simp only at ih1 ⊢
            obtain ⟨n1, hn1, ih1, hl1⟩ := ih1
            have ih2 := ih (half2 p c) (l.filter fun x => !before c x) r.2.1.labels q2 (hpc.half2 hc) w2 (by omega) (by omega) rest (pl ++ [c] ++ cs1) n1 j (by omega) (by simp; omega) hn1
            rw [← hr2e] at ih2
            cases hB : planR m (half2 p c) (l.filter fun x => !before c x) with
            | mk cs2 o2 =>
              rw [hB] at ih2
              cases o2 with
              | some q =>
                simp only at ih2 ⊢
                obtain ⟨l2, ih2⟩ := ih2
                exact ⟨l2, by rw [step, ih1, ih2]; simp⟩
              | none =>
                simp only at ih2 ⊢
                obtain ⟨n2, hn2, ih2, hl2⟩ := ih2
                exact ⟨n2, hn2, by rw [step, ih1, ih2]; simp, by simp; omega⟩
def planS (L : Layout) : List Cut × Option Label := planR L.Labels.length (sheetOf L) L.Labels
theorem f58_eq {N : Nat} {L : Layout} (hv : Valid L) (hN : 30 < N) : match (planS L).2 with
    | none => f58 N L = some ((planS L).1, blank, true) ∧ (planS L).1.length + 1 = max 1 L.Labels.length
    | some q => ∃ l2, f58 N L = some ((planS L).1, ⟨q, l2⟩, false) := by
  have hlen := hv.len
  have fin : ∀ n pl, f58_i102_2 L N (f58_i102_c11 L) (n + 1) [] pl = some (pl, blank, true) := fun n pl => rfl
  have h0 : f58 N L = f58_i102_2 L N (f58_i102_c11 L) N ([] ++ [⟨sheetOf L, L.Labels⟩]) [] := rfl
  rw [h0]
  by_cases hz : L.Labels.length = 0
  · have hnil : L.Labels = [] := List.length_eq_zero_iff.1 hz
    obtain ⟨n, rfl⟩ : ∃ n, N = n + 2 := ⟨N - 2, by omega⟩
    have : planS L = ([], none) := by unfold planS; rw [hz]; rfl
    rw [this]
    refine ⟨?_, by rw [hz]; rfl⟩
    rw [hnil]; rfl
  · have := f58_stack (a := L) (k0 := f58_i102_c11 L) hN L.Labels.length (sheetOf L) L.Labels L.Labels (.refl _) ⟨hv.small, hv.fits⟩ (by omega) (Nat.le_refl _) (by omega) [] [] N 1 (by simp; omega) (by simp; omega) (by omega)
    revert this
    show (match (planS L).2 with | none => _ | some q => _) → _
    cases hq : (planS L).2 with
    | none =>
      rintro ⟨n', hn', h1, h2⟩
      obtain ⟨n', rfl⟩ : ∃ k, n' = k + 1 := ⟨n' - 1, by omega⟩
      refine ⟨?_, by show (planR _ _ _).1.length + 1 = _; omega⟩
      rw [h1, fin]; rfl
    | some q =>
      rintro ⟨l2, h1⟩
      exact ⟨l2, by rw [h1]; rfl⟩
end Go.Vc
namespace Go.Vc
open Go.Proofs
set_option linter.unusedVariables false
set_option linter.unnecessarySimpa false
set_option linter.unusedSimpArgs false
def f27_c6 (out3 : List Cut) : Option ((List Cut)) :=
 some (out3)
def f27_3b (r3 : (List Cut) → Int → Option ((List Cut))) (a0 : List Cut) (k0 : (List Cut) → Option ((List Cut))) (out3 : List Cut) (i4 : Int) : Option ((List Cut)) :=
 bif decide (i4 < (List.length a0 : Int)) then ((ix a0 i4).bind fun x1 =>
 (app 16 out3 [x1]).bind fun x2 =>
 r3 x2 (W (i4 + (1 : Int))))
 else (k0 out3)
def f27_3 (a0 : List Cut) (k0 : (List Cut) → Option ((List Cut))) : Nat → (List Cut) → Int → Option ((List Cut))
  | 0, _, _ => none
  | n + 1, out3, i4 => f27_3b (f27_3 a0 k0 n) a0 k0 out3 i4
def f27 (N : Nat) (a0 : List Cut) : Option ((List Cut)) :=
 joinK f27_c6 fun k0 =>
 f27_3 a0 k0 N [] (0 : Int)
end Go.Vc
namespace Go.Vc
open Go.Proofs
set_option linter.unusedVariables false
set_option linter.unnecessarySimpa false
set_option linter.unusedSimpArgs false
def f4 (N : Nat) (a0 : Layout) (a1 : List Cut) : Option (Bool) :=
 bif decide ((30 : Int) < (List.length a0.Labels : Int)) then ((f13 N ).bind fun x1 =>
 some (x1))
 else (bif decide ((30 : Int) < (List.length a1 : Int)) then ((f13 N ).bind fun x2 =>
 some (x2))
 else ((f14 N a0).bind fun x3 =>
 (f22 N a0).bind fun x4 =>
 (f23 N x3).bind fun x5 =>
 (f24 N a0).bind fun x6 =>
 bif decide (¬ x4.2 = x5) then (some (false))
 else ((f25 N a0 a1).bind fun x7 =>
 (f27 N a1).bind fun x8 =>
 (f26 N x3 x8).bind fun x9 =>
 bif decide (¬ x7 = x9) then (some (false))
 else (bif decide (x5 = (0 : Int)) then (bif decide (x6.2 = (14 : Int)) then (bif (decide (x6.1.X = (0 : Int)) && (decide (x6.1.Y = (0 : Int)) && (decide (x6.1.W = (0 : Int)) && (decide (x6.1.H = (0 : Int)) && true)))) then ((f27 N x4.1).bind fun x10 =>
 (f26 N x3 x10).bind fun x11 =>
 bif decide (x11 = (0 : Int)) then ((f13 N ).bind fun x12 =>
 some (x12))
 else (some (false)))
 else (some (false)))
 else (some (false)))
 else (bif decide ((0 : Int) < (List.length x4.1 : Int)) then (some (false))
 else (bif decide (x5 = (14 : Int)) then (bif decide (x6.2 = (0 : Int)) then ((f28 N x3 x6.1).bind fun x13 =>
 bif x13 then ((f13 N ).bind fun x14 =>
 some (x14))
 else (some (false)))
 else (some (false)))
 else (bif decide (x6.2 = x5) then (bif (decide (x6.1.X = (0 : Int)) && (decide (x6.1.Y = (0 : Int)) && (decide (x6.1.W = (0 : Int)) && (decide (x6.1.H = (0 : Int)) && true)))) then ((f13 N ).bind fun x15 =>
 some (x15))
 else (some (false)))
 else (some (false)))))))))
end Go.Vc
/-
  PLAIN LAWS OF CUT, 6: plans are accepted alike; blocked pieces; the statement CutPlans.
-/
namespace Go.Vc
set_option linter.unusedVariables false
set_option linter.unnecessarySimpa false
set_option linter.unusedSimpArgs false
set_option linter.unusedSimpArgs false

def planA (L : Layout) : List Cut × Int := if checkS L = 0 then (match (planS L).2 with | none => ((planS L).1, 0) | some _ => ([], 14)) else ([], checkS L)
def blockA (L : Layout) : Label × Int := if checkS L = 0 then (match (planS L).2 with | none => (⟨0, 0, 0, 0⟩, 14) | some q => (q, 0)) else (⟨0, 0, 0, 0⟩, checkS L)
theorem f22_eq {N : Nat} {L : Layout} (h : L.Labels.length ≤ 30) (hN : 30 < N) : f22 N L = some (planA L) := by
  unfold f22 planA
  simp only [f20_eq h hN, Option.bind_some]
  by_cases c : checkS L = 0
  · have hp := f58_eq (valid_of c) hN
    rw [if_pos c, decide_eq_false (Classical.not_not.2 c), cond_false]
    cases hq : (planS L).2 with
    | none => rw [hq] at hp; rw [hp.1]; rfl
    | some q => rw [hq] at hp; obtain ⟨l2, hp⟩ := hp; rw [hp]; rfl
  · rw [if_neg c, decide_eq_true c]; rfl
theorem f24_eq {N : Nat} {L : Layout} (h : L.Labels.length ≤ 30) (hN : 30 < N) : f24 N L = some (blockA L) := by
  unfold f24 blockA
  simp only [f20_eq h hN, Option.bind_some]
  by_cases c : checkS L = 0
  · have hp := f58_eq (valid_of c) hN
    rw [if_pos c, decide_eq_false (Classical.not_not.2 c), cond_false]
    cases hq : (planS L).2 with
    | none => rw [hq] at hp; rw [hp.1]; rfl
    | some q => rw [hq] at hp; obtain ⟨l2, hp⟩ := hp; rw [hp]; rfl
  · rw [if_neg c, decide_eq_true c]; rfl

/-! The document's apart. -/
theorem filter_in1 {p : Label} {l : List Label} {c : Cut} (h : Pc p l) (hc : isCut p l c = true) : l.filter (insideB (half1 p c)) = l.filter (before c) :=
  filter_congr' fun x hx => inside_half1 h.small (h.fits x hx) (isCut_parts hc).1
theorem filter_in2 {p : Label} {l : List Label} {c : Cut} (h : Pc p l) (hc : isCut p l c = true) : l.filter (insideB (half2 p c)) = l.filter fun x => !before c x :=
  filter_congr' fun x hx => by
    rw [inside_half2 h.small (h.fits x hx) (isCut_parts hc).1]
    cases hb : before c x with
    | true => rw [not_both (h.fits x hx) hb]; rfl
    | false => rw [behind_of hc hx hb]; rfl
theorem f59_eq : ∀ (m n : Nat) (p : Label) (l : List Label), Pc p l → l.length ≤ m → l.length ≤ 30 → 30 + l.length < n → f59 n l p = some (planR m p l).2.isNone := by
  intro m
  induction m with
  | zero =>
    intro n p l hp hm _ hn
    obtain ⟨n, rfl⟩ : ∃ k, n = k + 1 := ⟨n - 1, by omega⟩
    have : l = [] := List.length_eq_zero_iff.1 (by omega)
    subst this; rfl
  | succ m ih =>
    intro n p l hp hm h30 hn
    obtain ⟨n, rfl⟩ : ∃ k, n = k + 1 := ⟨n - 1, by omega⟩
    simp only [f59, f59b, planR]
    by_cases h2 : l.length < 2
    · rw [if_pos h2, decide_eq_true (show (l.length : Int) < 2 by omega)]; rfl
    · rw [if_neg h2, decide_eq_false (show ¬ (l.length : Int) < 2 by omega), cond_false, f46_eq hp.small hp.fits h30 (by omega)]
      simp only [Option.bind_some]
      cases hcs : cutsL p l with
      | nil => rfl
      | cons c cr =>
        have hc : isCut p l c = true := mem_cutsL (by rw [hcs]; simp)
        obtain ⟨w1, w2⟩ := cut_lens hc
        have hsplit := split_len (l := l) (before c)
        rw [decide_eq_false (show ¬ ((c :: cr).length : Int) = 0 by simp only [List.length_cons]; omega), cond_false, show ix (c :: cr) (0 : Int) = some c from rfl]
        simp only [Option.bind_some, f64_in hp.small (isCut_parts hc).1, f62_eq h30 (show 30 < n by omega), filter_in1 hp hc, filter_in2 hp hc]
        rw [ih n _ _ (hp.half1 hc) (by omega) (by omega) (by omega)]
        simp only [Option.bind_some]
        cases hA : planR m (half1 p c) (l.filter (before c)) with
        | mk cs1 o1 =>
          cases o1 with
          | some q => rfl
          | none =>
            simp only [Option.isNone_none, cond_true]
            rw [ih n _ _ (hp.half2 hc) (by omega) (by omega) (by omega)]
            rfl
def possS (L : Layout) : Int := if checkS L = 0 then (if (planS L).2 = none then 0 else 14) else checkS L
theorem f23_eq {N : Nat} {L : Layout} (h : L.Labels.length ≤ 30) (hN : 60 < N) : f23 N L = some (possS L) := by
  unfold f23 possS
  simp only [f21_eq h (show 30 < N by omega), Option.bind_some]
  by_cases c : checkS L = 0
  · have hv := valid_of c
    rw [if_pos c, decide_eq_true c, cond_true]
    simp only [f47, Option.bind_some]
    have := f59_eq L.Labels.length N (sheetOf L) L.Labels ⟨hv.small, hv.fits⟩ (Nat.le_refl _) h (by omega)
    simp only [sheetOf] at this
    rw [this]
    show ((some (planS L).2.isNone).bind _) = _
    cases hq : (planS L).2 with
    | none => simp [c]
    | some q => simp
  · rw [if_neg c, decide_eq_false c]; rfl

/-! Plans that are given. -/
inductive Ver where
  | err (e : Int)
  | left (r : List Cut)
def verR : Nat → Label → List Label → List Cut → Ver
  | 0, _, _, pl => .left pl
  | m + 1, p, l, pl => if l.length < 2 then .left pl else match pl with
    | [] => .err 22
    | c :: r => bif isCut p l c then (match verR m (half1 p c) (l.filter (before c)) r with
        | .err e => .err e
        | .left r' => verR m (half2 p c) (l.filter fun x => !before c x) r') else .err 13
theorem verR_perm : ∀ (m : Nat) {p : Label} {l l' : List Label} {pl : List Cut}, l.Perm l' → verR m p l pl = verR m p l' pl
  | 0, _, _, _, _, _ => rfl
  | m + 1, p, l, l', pl, h => by
    simp only [verR, h.length_eq]
    split
    · rfl
    · cases pl with
      | nil => rfl
      | cons c r => simp only [isCut_perm h, verR_perm m (h.filter (before c)), verR_perm m (h.filter fun x => !before c x)]
theorem f25_stack {N : Nat} {a : Layout} {pl : List Cut} {k1 : Int → Bool → Option Int} (hN : 30 < N) (hpl : pl.length ≤ 30) : ∀ (m : Nat) (p : Label) (l l' : List Label), l'.Perm l → Pc p l → 1 ≤ l.length → l.length ≤ m → l.length ≤ 30 → ∀ (rest : List Piece) (i n j : Nat), rest.length + l.length ≤ 100 → i ≤ pl.length →
    2 * l.length - 1 + j ≤ n → (match verR m p l (pl.drop i) with
      | .left r => ∃ n' i', j ≤ n' ∧ i' ≤ pl.length ∧ r = pl.drop i' ∧ f25_i502_2 a pl N (f25_c6 pl) k1 n (rest ++ [⟨p, l'⟩]) (i : Int) false = f25_i502_2 a pl N (f25_c6 pl) k1 n' rest (i' : Int) false
      | .err e => f25_i502_2 a pl N (f25_c6 pl) k1 n (rest ++ [⟨p, l'⟩]) (i : Int) false = some e) := by
  intro m
  induction m with
  | zero => intro p l l' _ _ h1 h2; omega
  | succ m ih =>
    intro p l l' hp hpc h1 hm h30 rest i n j hr hi hn
    obtain ⟨n, rfl⟩ : ∃ k, n = k + 1 := ⟨n - 1, by omega⟩
    obtain ⟨e1, e2, e3, e4⟩ := stk (r := rest) (x := (⟨p, l'⟩ : Piece)) (by omega)
    have hlen := hp.length_eq
    simp only [verR]
    by_cases h2 : l.length < 2
    · rw [if_pos h2]
      refine ⟨n, i, by omega, hi, rfl, ?_⟩
      simp only [f25_i502_2, f25_i502_2b, e1, cond_true, e2, e3, e4, Option.bind_some, decide_eq_true (show (l'.length : Int) < 2 by omega)]
    · rw [if_neg h2]
      have hpc' := hpc.perm hp
      by_cases hil : i = pl.length
      · subst hil
        rw [List.drop_length]
        obtain ⟨r, hr1, hr2⟩ := f69_ok (N := N) (p := p) (l := l') (c := ⟨false, 0⟩) hpc'.small hpc'.fits (by omega) hN
        simp only [f25_i502_2, f25_i502_2b, e1, cond_true, e2, e3, e4, Option.bind_some, decide_eq_false (show ¬ (l'.length : Int) < 2 by omega), cond_false, joinK, decide_true, f25_i502_c7, hr1, Bool.not_false, f25_c6]
      · have hil : i < pl.length := by omega
        have hd : pl.drop i = pl[i] :: pl.drop (i + 1) := (List.getElem_cons_drop hil).symm
        have hx : pl[i]? = some pl[i] := by simp [hil]
        rw [hd]
        generalize pl[i] = c at hx
        obtain ⟨r, hr1, hr2⟩ := f69_ok (N := N) (c := c) hpc'.small hpc'.fits (by omega) hN
        have step0 : f25_i502_2 a pl N (f25_c6 pl) k1 (n + 1) (rest ++ [⟨p, l'⟩]) (i : Int) false = f25_i502_c7 a pl N (f25_c6 pl) (f25_i502_2 a pl N (f25_c6 pl) k1 n) ⟨p, l'⟩ rest true c.Up c.At ((i + 1 : Nat) : Int) false := by
          simp only [f25_i502_2, f25_i502_2b, e1, cond_true, e2, e3, e4, Option.bind_some, decide_eq_false (show ¬ (l'.length : Int) < 2 by omega), cond_false, joinK, decide_eq_false (show ¬ (i : Int) = (pl.length : Int) by omega)]
          rw [W_nat (show i < 9223372036854775807 by omega), show W (((i + 1 : Nat) : Int) - 1) = (i : Int) from by rw [W_in (by omega) (by omega)]; omega, ix_nat, hx]
          rfl
        have g1 := hr2.is
        rw [isCut_perm hp] at g1
        simp only
        cases hc : isCut p l c with
        | false =>
          rw [hc] at g1
          rw [cond_false]
          simp only [step0, f25_i502_c7, hr1, Option.bind_some, Bool.not_true, cond_false, g1, Bool.not_false, cond_true, f25_c6]
        | true =>
          have hc' : isCut p l' c = true := by rw [isCut_perm hp]; exact hc
          have g2 := hr2.l1 hc'; have g3 := hr2.l2 hc'; have g4 := hr2.p1 hc'; have g5 := hr2.p2 hc'
          rw [hc] at g1
          have q1 := g4.trans (hp.filter (before c))
          have q2 := g5.trans (hp.filter fun x => !before c x)
          have hsplit := split_len (l := l) (before c)
          obtain ⟨w1, w2⟩ := cut_lens hc
          have step : f25_i502_2 a pl N (f25_c6 pl) k1 (n + 1) (rest ++ [⟨p, l'⟩]) (i : Int) false = f25_i502_2 a pl N (f25_c6 pl) k1 n (rest ++ [r.2.1] ++ [r.1]) ((i + 1 : Nat) : Int) false := by
            rw [step0]
            simp only [f25_i502_c7, hr1, Option.bind_some, Bool.not_true, cond_false, g1]
            rw [app_ok (by simp; omega) (by simp; omega)]
            simp only [Option.bind_some, List.append_assoc, List.singleton_append, List.cons_append, List.nil_append]
          have hr1e : r.1 = ⟨half1 p c, r.1.labels⟩ := by rw [← g2]
          have hr2e : r.2.1 = ⟨half2 p c, r.2.1.labels⟩ := by rw [← g3]
          have ih1 := ih (half1 p c) (l.filter (before c)) r.1.labels q1 (hpc.half1 hc) w1 (by omega) (by omega) (rest ++ [r.2.1]) (i + 1) n (2 * (l.filter fun x => !before c x).length - 1 + j) (by simp; omega) (by omega) (by omega)
          rw [← hr1e] at ih1
          rw [cond_true]
          cases hA : verR m (half1 p c) (l.filter (before c)) (pl.drop (i + 1)) with
          | err e =>
            rw [hA] at ih1
            simp only at ih1 ⊢
            rw [step, ih1]
          | left r' =>
            rw [hA] at ih1
            simp only at ih1 ⊢
            obtain ⟨n1, i1, hn1, hi1, rfl, ih1⟩ := ih1
            have ih2 := ih (half2 p c) (l.filter fun x => !before c x) r.2.1.labels q2 (hpc.half2 hc) w2 (by omega) (by omega) rest i1 n1 j (by omega) hi1 hn1
            rw [← hr2e] at ih2
            cases hB : verR m (half2 p c) (l.filter fun x => !before c x) (pl.drop i1) with
            | err e =>
              rw [hB] at ih2
              simp only at ih2 ⊢
              rw [step, ih1, ih2]
            | left r2 =>
              rw [hB] at ih2
              simp only at ih2 ⊢
              obtain ⟨n2, i2, hn2, hi2, he, ih2⟩ := ih2
              exact ⟨n2, i2, hn2, hi2, he, by rw [step, ih1, ih2]⟩
def verE : Ver → Int
  | .err e => e
  | .left [] => 0
  | .left (_ :: _) => 21
def verS (L : Layout) (pl : List Cut) : Int := if checkS L = 0 then verE (verR L.Labels.length (sheetOf L) L.Labels pl) else checkS L
theorem left_len {pl : List Cut} {i : Nat} (h : i ≤ pl.length) : verE (.left (pl.drop i)) = if (i : Int) < (pl.length : Int) then 21 else 0 := by
  by_cases hi : i < pl.length
  · rw [(List.getElem_cons_drop hi).symm, if_pos (by omega)]; rfl
  · have : i = pl.length := by omega
    subst this
    rw [List.drop_length, if_neg (by omega)]; rfl
theorem f25_eq {N : Nat} {L : Layout} {pl : List Cut} (h : L.Labels.length ≤ 30) (hpl : pl.length ≤ 30) (hN : 30 < N) : f25 N L pl = some (verS L pl) := by
  unfold f25 verS
  simp only [f20_eq h hN, Option.bind_some]
  by_cases c : checkS L = 0
  · have hv := valid_of c
    have hlen := hv.len
    rw [if_pos c, decide_eq_false (Classical.not_not.2 c), cond_false]
    simp only [joinK, f44, Option.bind_some]
    have fin : ∀ n (i : Nat), f25_i502_2 L pl N (f25_c6 pl) (f25_i502_c11 L pl (f25_c6 pl)) (n + 1) [] (i : Int) false = some (if (i : Int) < (pl.length : Int) then 21 else 0) := by
      intro n i
      simp only [f25_i502_2, f25_i502_2b, List.length_nil, Int.ofNat_eq_natCast, Int.natCast_zero, Int.lt_irrefl, decide_false, cond_false, f25_i502_c11, f25_c6, Bool.not_true]
      by_cases hi : (i : Int) < (pl.length : Int)
      · rw [decide_eq_true hi, if_pos hi]; rfl
      · rw [decide_eq_false hi, if_neg hi]; rfl
    show f25_i502_2 L pl N (f25_c6 pl) (f25_i502_c11 L pl (f25_c6 pl)) N ([] ++ [⟨sheetOf L, L.Labels⟩]) ((0 : Nat) : Int) false = _
    by_cases hz : L.Labels.length = 0
    · have hnil : L.Labels = [] := List.length_eq_zero_iff.1 hz
      obtain ⟨n, rfl⟩ : ∃ n, N = n + 2 := ⟨N - 2, by omega⟩
      rw [hz]
      simp only [verR]
      have := left_len (pl := pl) (i := 0) (by omega)
      rw [List.drop_zero] at this
      rw [this, ← fin n 0, hnil]
      rfl
    · have := f25_stack (a := L) (k1 := f25_i502_c11 L pl (f25_c6 pl)) hN hpl L.Labels.length (sheetOf L) L.Labels L.Labels (.refl _) ⟨hv.small, hv.fits⟩ (by omega) (Nat.le_refl _) (by omega) [] 0 N 1 (by simp; omega) (by omega) (by omega)
      rw [List.drop_zero] at this
      cases hq : verR L.Labels.length (sheetOf L) L.Labels pl with
      | err e => rw [hq] at this; exact this
      | left r =>
        rw [hq] at this
        obtain ⟨n', i', hn', hi', rfl, h1⟩ := this
        obtain ⟨n', rfl⟩ : ∃ k, n' = k + 1 := ⟨n' - 1, by omega⟩
        rw [h1, fin, left_len hi']
  · rw [if_neg c, decide_eq_true c]; rfl

/-! The document's Verify: pieces by their labels inside. -/
theorem inside_sub1 {p x : Label} {c : Cut} (hs : Small p) (hc : inner c p = true) (hx : ∃ q, Small q ∧ Fits q x) (h : insideB (half1 p c) x = true) : insideB p x = true := by
  have s1 := hs.x0; have s2 := hs.y0; have s3 := hs.x1; have s4 := hs.y1; have s5 := hs.w; have s6 := hs.h
  obtain ⟨q, hq, hf⟩ := hx
  have u1 := hq.x0; have u2 := hq.y0; have u3 := hq.x1; have u4 := hq.y1
  have t1 := hf.w; have t2 := hf.h; have t3 := hf.x0; have t4 := hf.y0; have t5 := hf.x1; have t6 := hf.y1
  obtain ⟨up, a⟩ := c
  unfold inner at hc
  rw [Bool.and_eq_true, decide_eq_true_iff, decide_eq_true_iff] at hc
  rw [insideB_iff (by omega) (by omega)]
  cases up with
  | true =>
    have hc : p.X + 1 ≤ a ∧ a ≤ p.X + p.W - 1 := hc
    rw [insideB_iff (p := half1 p ⟨true, a⟩) (x := x) (by show -1000 ≤ p.X + (a - p.X) ∧ p.X + (a - p.X) ≤ 1000 ∧ -1000 ≤ p.Y + p.H ∧ p.Y + p.H ≤ 1000; omega) (by omega)] at h
    have h : p.X ≤ x.X ∧ p.Y ≤ x.Y ∧ x.X + x.W ≤ p.X + (a - p.X) ∧ x.Y + x.H ≤ p.Y + p.H := h
    omega
  | false =>
    have hc : p.Y + 1 ≤ a ∧ a ≤ p.Y + p.H - 1 := hc
    rw [insideB_iff (p := half1 p ⟨false, a⟩) (x := x) (by show -1000 ≤ p.X + p.W ∧ p.X + p.W ≤ 1000 ∧ -1000 ≤ p.Y + (a - p.Y) ∧ p.Y + (a - p.Y) ≤ 1000; omega) (by omega)] at h
    have h : p.X ≤ x.X ∧ p.Y ≤ x.Y ∧ x.X + x.W ≤ p.X + p.W ∧ x.Y + x.H ≤ p.Y + (a - p.Y) := h
    omega
theorem inside_sub2 {p x : Label} {c : Cut} (hs : Small p) (hc : inner c p = true) (hx : ∃ q, Small q ∧ Fits q x) (h : insideB (half2 p c) x = true) : insideB p x = true := by
  have s1 := hs.x0; have s2 := hs.y0; have s3 := hs.x1; have s4 := hs.y1; have s5 := hs.w; have s6 := hs.h
  obtain ⟨q, hq, hf⟩ := hx
  have u1 := hq.x0; have u2 := hq.y0; have u3 := hq.x1; have u4 := hq.y1
  have t1 := hf.w; have t2 := hf.h; have t3 := hf.x0; have t4 := hf.y0; have t5 := hf.x1; have t6 := hf.y1
  obtain ⟨up, a⟩ := c
  unfold inner at hc
  rw [Bool.and_eq_true, decide_eq_true_iff, decide_eq_true_iff] at hc
  rw [insideB_iff (by omega) (by omega)]
  cases up with
  | true =>
    have hc : p.X + 1 ≤ a ∧ a ≤ p.X + p.W - 1 := hc
    rw [insideB_iff (p := half2 p ⟨true, a⟩) (x := x) (by show -1000 ≤ a + (p.X + p.W - a) ∧ a + (p.X + p.W - a) ≤ 1000 ∧ -1000 ≤ p.Y + p.H ∧ p.Y + p.H ≤ 1000; omega) (by omega)] at h
    have h : a ≤ x.X ∧ p.Y ≤ x.Y ∧ x.X + x.W ≤ a + (p.X + p.W - a) ∧ x.Y + x.H ≤ p.Y + p.H := h
    omega
  | false =>
    have hc : p.Y + 1 ≤ a ∧ a ≤ p.Y + p.H - 1 := hc
    rw [insideB_iff (p := half2 p ⟨false, a⟩) (x := x) (by show -1000 ≤ p.X + p.W ∧ p.X + p.W ≤ 1000 ∧ -1000 ≤ a + (p.Y + p.H - a) ∧ a + (p.Y + p.H - a) ≤ 1000; omega) (by omega)] at h
    have h : p.X ≤ x.X ∧ a ≤ x.Y ∧ x.X + x.W ≤ p.X + p.W ∧ x.Y + x.H ≤ a + (p.Y + p.H - a) := h
    omega
theorem inside_fits {p x : Label} (hs : Small p) (hx : ∃ q, Small q ∧ Fits q x) (h : insideB p x = true) : Fits p x := by
  have s1 := hs.x0; have s2 := hs.y0; have s3 := hs.x1; have s4 := hs.y1; have s5 := hs.w; have s6 := hs.h
  obtain ⟨q, hq, hf⟩ := hx
  have u1 := hq.x0; have u2 := hq.y0; have u3 := hq.x1; have u4 := hq.y1
  have t1 := hf.w; have t2 := hf.h; have t3 := hf.x0; have t4 := hf.y0; have t5 := hf.x1; have t6 := hf.y1
  rw [insideB_iff (by omega) (by omega)] at h
  exact ⟨t1, t2, by omega, by omega, by omega, by omega⟩
/-- labels that lie in a sheet -/
def Laid (S : List Label) : Prop := ∀ x, x ∈ S → ∃ q, Small q ∧ Fits q x
theorem inside_half1_all {S : List Label} {p : Label} {c : Cut} (hS : Laid S) (hs : Small p) (hc : inner c p = true) : S.filter (insideB (half1 p c)) = (S.filter (insideB p)).filter (before c) := by
  rw [List.filter_filter]
  refine List.filter_congr fun x hx => ?_
  cases hp : insideB p x with
  | true =>
    have hf := inside_fits hs (hS x hx) hp
    rw [inside_half1 hs hf hc, Bool.and_true]
  | false =>
    rw [Bool.and_false]
    cases hh : insideB (half1 p c) x with
    | false => rfl
    | true => rw [inside_sub1 hs hc (hS x hx) hh] at hp; cases hp
theorem inside_half2_all {S : List Label} {p : Label} {c : Cut} (hS : Laid S) (hs : Small p) (hc : isCut p (S.filter (insideB p)) c = true) : S.filter (insideB (half2 p c)) = (S.filter (insideB p)).filter fun x => !before c x := by
  rw [List.filter_filter]
  refine List.filter_congr fun x hx => ?_
  have hin := (isCut_parts hc).1
  cases hp : insideB p x with
  | true =>
    have hf := inside_fits hs (hS x hx) hp
    rw [inside_half2 hs hf hin, Bool.and_true]
    cases hb : before c x with
    | true => rw [not_both hf hb]; rfl
    | false => rw [behind_of hc (List.mem_filter.2 ⟨hx, hp⟩) hb]; rfl
  | false =>
    rw [Bool.and_false]
    cases hh : insideB (half2 p c) x with
    | false => rfl
    | true => rw [inside_sub2 hs hin (hS x hx) hh] at hp; cases hp
theorem pc_inside {S : List Label} {p : Label} (hS : Laid S) (hs : Small p) : Pc p (S.filter (insideB p)) := ⟨hs, fun x hx => inside_fits hs (hS x (List.mem_filter.1 hx).1) (List.mem_filter.1 hx).2⟩
theorem f26_stack {N : Nat} {a : Layout} {pl : List Cut} (hS : Laid a.Labels) (ha : a.Labels.length ≤ 30) (hN : 30 < N) (hpl : pl.length ≤ 30) : ∀ (m : Nat) (p : Label) (l : List Label), l = a.Labels.filter (insideB p) → Small p → 1 ≤ l.length → l.length ≤ m → l.length ≤ 30 → ∀ (rest : List Label) (i n j : Nat), rest.length + l.length ≤ 100 → i ≤ pl.length →
    2 * l.length - 1 + j ≤ n → (match verR m p l (pl.drop i) with
      | .left r => ∃ n' i', j ≤ n' ∧ i' ≤ pl.length ∧ r = pl.drop i' ∧ f26_6 a pl N (f26_c18 pl) n (rest ++ [p]) (i : Int) = f26_6 a pl N (f26_c18 pl) n' rest (i' : Int)
      | .err e => f26_6 a pl N (f26_c18 pl) n (rest ++ [p]) (i : Int) = some e) := by
  intro m
  induction m with
  | zero => intro p l _ _ h1 h2; omega
  | succ m ih =>
    intro p l hl hs h1 hm h30 rest i n j hr hi hn
    obtain ⟨n, rfl⟩ : ∃ k, n = k + 1 := ⟨n - 1, by omega⟩
    obtain ⟨e1, e2, e3, e4⟩ := stk (r := rest) (x := p) (by omega)
    have hpc : Pc p l := by rw [hl]; exact pc_inside hS hs
    simp only [verR]
    by_cases h2 : l.length < 2
    · rw [if_pos h2]
      refine ⟨n, i, by omega, hi, rfl, ?_⟩
      simp only [f26_6, f26_6b, e1, cond_true, e2, e3, e4, Option.bind_some, f62_eq ha hN, ← hl, decide_eq_true (show (l.length : Int) < 2 by omega)]
    · rw [if_neg h2]
      by_cases hil : i = pl.length
      · subst hil
        rw [List.drop_length]
        simp only [f26_6, f26_6b, e1, cond_true, e2, e3, e4, Option.bind_some, f62_eq ha hN, ← hl, decide_eq_false (show ¬ (l.length : Int) < 2 by omega), cond_false, decide_true]
      · have hil : i < pl.length := by omega
        have hd : pl.drop i = pl[i] :: pl.drop (i + 1) := (List.getElem_cons_drop hil).symm
        have hx : pl[i]? = some pl[i] := by simp [hil]
        rw [hd]
        generalize pl[i] = c at hx
        simp only
        cases hc : isCut p l c with
        | false =>
          rw [cond_false]
          simp only [f26_6, f26_6b, e1, cond_true, e2, e3, e4, Option.bind_some, f62_eq ha hN, ← hl, decide_eq_false (show ¬ (l.length : Int) < 2 by omega), cond_false, decide_eq_false (show ¬ (i : Int) = (pl.length : Int) by omega), ix_nat, hx, f63_eq hpc.small hpc.fits h30 hN, hc, Bool.not_false]
        | true =>
          have hin := (isCut_parts hc).1
          have hsplit := split_len (l := l) (before c)
          obtain ⟨w1, w2⟩ := cut_lens hc
          have step : f26_6 a pl N (f26_c18 pl) (n + 1) (rest ++ [p]) (i : Int) = f26_6 a pl N (f26_c18 pl) n (rest ++ [half2 p c] ++ [half1 p c]) ((i + 1 : Nat) : Int) := by
            simp only [f26_6, f26_6b, e1, cond_true, e2, e3, e4, Option.bind_some, f62_eq ha hN, ← hl, decide_eq_false (show ¬ (l.length : Int) < 2 by omega), cond_false, decide_eq_false (show ¬ (i : Int) = (pl.length : Int) by omega), ix_nat, hx, f63_eq hpc.small hpc.fits h30 hN, hc, Bool.not_true, f64_in hs hin]
            rw [app_ok (by simp; omega) (by simp; omega), W_nat (show i < 9223372036854775807 by omega)]
            simp only [Option.bind_some, List.append_assoc, List.singleton_append, List.cons_append, List.nil_append]
          have ih1 := ih (half1 p c) (l.filter (before c)) (by rw [inside_half1_all hS hs hin, ← hl]) (small_half1 hs hin) w1 (by omega) (by omega) (rest ++ [half2 p c]) (i + 1) n (2 * (l.filter fun x => !before c x).length - 1 + j) (by simp; omega) (by omega) (by omega)
          rw [cond_true]
          cases hA : verR m (half1 p c) (l.filter (before c)) (pl.drop (i + 1)) with
          | err e =>
            rw [hA] at ih1
            simp only at ih1 ⊢
            rw [step, ih1]
          | left r' =>
            rw [hA] at ih1
            simp only at ih1 ⊢
            obtain ⟨n1, i1, hn1, hi1, rfl, ih1⟩ := ih1
            have ih2 := ih (half2 p c) (l.filter fun x => !before c x) (by rw [inside_half2_all hS hs (by rw [← hl]; exact hc), ← hl]) (small_half2 hs hin) w2 (by omega) (by omega) rest i1 n1 j (by omega) hi1 hn1
            cases hB : verR m (half2 p c) (l.filter fun x => !before c x) (pl.drop i1) with
            | err e =>
              rw [hB] at ih2
              simp only at ih2 ⊢
              rw [step, ih1, ih2]
            | left r2 =>
              rw [hB] at ih2
              simp only at ih2 ⊢
              obtain ⟨n2, i2, hn2, hi2, he, ih2⟩ := ih2
              exact ⟨n2, i2, hn2, hi2, he, by rw [step, ih1, ih2]⟩
theorem inside_sheet {L : Layout} (hv : Valid L) : L.Labels.filter (insideB (sheetOf L)) = L.Labels := by
  rw [List.filter_eq_self]
  intro x hx
  have s := hv.small
  have s1 := s.x0; have s2 := s.y0; have s3 := s.x1; have s4 := s.y1; have s5 := s.w; have s6 := s.h
  have hf := hv.fits x hx
  have t1 := hf.w; have t2 := hf.h; have t3 := hf.x0; have t4 := hf.y0; have t5 := hf.x1; have t6 := hf.y1
  rw [insideB_iff (by omega) (by omega)]
  exact ⟨t3, t4, t5, t6⟩
theorem Valid.laid {L : Layout} (hv : Valid L) : Laid L.Labels := fun x hx => ⟨_, hv.small, hv.fits x hx⟩
theorem f26_eq {N : Nat} {L : Layout} {pl : List Cut} (h : L.Labels.length ≤ 30) (hpl : pl.length ≤ 30) (hN : 30 < N) : f26 N L pl = some (verS L pl) := by
  unfold f26 verS
  simp only [f21_eq h hN, Option.bind_some]
  by_cases c : checkS L = 0
  · have hv := valid_of c
    have hlen := hv.len
    rw [if_pos c, decide_eq_false (Classical.not_not.2 c), cond_false]
    simp only [joinK, f47, Option.bind_some]
    have fin : ∀ n (i : Nat), f26_6 L pl N (f26_c18 pl) (n + 1) [] (i : Int) = some (if (i : Int) < (pl.length : Int) then 21 else 0) := by
      intro n i
      simp only [f26_6, f26_6b, List.length_nil, Int.ofNat_eq_natCast, Int.natCast_zero, Int.lt_irrefl, decide_false, cond_false, f26_c18]
      by_cases hi : (i : Int) < (pl.length : Int)
      · rw [decide_eq_true hi, if_pos hi]; rfl
      · rw [decide_eq_false hi, if_neg hi]; rfl
    show f26_6 L pl N (f26_c18 pl) N ([] ++ [sheetOf L]) ((0 : Nat) : Int) = _
    by_cases hz : L.Labels.length = 0
    · have hnil : L.Labels = [] := List.length_eq_zero_iff.1 hz
      obtain ⟨n, rfl⟩ : ∃ n, N = n + 2 := ⟨N - 2, by omega⟩
      rw [hz]
      simp only [verR]
      have := left_len (pl := pl) (i := 0) (by omega)
      rw [List.drop_zero] at this
      rw [this, ← fin n 0]
      have hf62 : f62 (n + 2) L.Labels (sheetOf L) = some [] := by rw [f62_eq h (by omega), hnil]; rfl
      show f26_6b _ L pl (n + 2) (f26_c18 pl) [sheetOf L] ((0 : Nat) : Int) = _
      unfold f26_6b
      rw [show decide ((0 : Int) < (List.length [sheetOf L] : Int)) = true from rfl, cond_true, show ix [sheetOf L] (W ((List.length [sheetOf L] : Int) - (1 : Int))) = some (sheetOf L) from rfl, show sub [sheetOf L] 0 (W ((List.length [sheetOf L] : Int) - (1 : Int))) = some [] from rfl]
      simp only [Option.bind_some, hf62]
      rfl
    · have := f26_stack (a := L) hv.laid h hN hpl L.Labels.length (sheetOf L) L.Labels (inside_sheet hv).symm hv.small (by omega) (Nat.le_refl _) (by omega) [] 0 N 1 (by simp; omega) (by omega) (by omega)
      rw [List.drop_zero] at this
      cases hq : verR L.Labels.length (sheetOf L) L.Labels pl with
      | err e => rw [hq] at this; exact this
      | left r =>
        rw [hq] at this
        obtain ⟨n', i', hn', hi', rfl, h1⟩ := this
        obtain ⟨n', rfl⟩ : ∃ k, n' = k + 1 := ⟨n' - 1, by omega⟩
        rw [h1, fin, left_len hi']
  · rw [if_neg c, decide_eq_true c]; rfl
end Go.Vc
/-
  PLAIN LAWS OF CUT, 7: the plan is accepted; the blocked piece is reached; the statement CutPlans.
-/
namespace Go.Vc
set_option linter.unusedVariables false
set_option linter.unnecessarySimpa false
set_option linter.unusedSimpArgs false
set_option linter.unusedSimpArgs false

theorem f27_eq {N : Nat} {a : List Cut} (h : a.length ≤ 30) (hN : 30 < N) : f27 N a = some a := by
  show f27_3 a f27_c6 N [] (0 : Int) = _
  have := loopL (l := a) (F := fun n s i => f27_3 a f27_c6 n s i) (g := fun _ x (o : List Cut) c => (app 16 o [x]).bind c) (k := f27_c6)
    (fun n s i x hx => by
      have hi := (List.getElem?_eq_some_iff.1 hx).1
      simp only [f27_3, f27_3b, ix_nat, hx, Option.bind_some, decide_eq_true (show (i : Int) < (a.length : Int) by omega), cond_true, W_nat (show i < 9223372036854775807 by omega)])
    (fun n s => by simp [f27_3, f27_3b]) N [] (by omega)
  refine this.trans ?_
  rw [foldK_copy _ _ _ (by simp; omega) (by simp; omega)]
  simp [f27_c6]
/-- the plan is accepted, and nothing of what follows it is used -/
theorem plan_ver : ∀ (m : Nat) (p : Label) (l : List Label) (r : List Cut), l.length ≤ m → (planR m p l).2 = none → verR m p l ((planR m p l).1 ++ r) = .left r
  | 0, _, _, _, _, _ => rfl
  | m + 1, p, l, r, hm, h => by
    simp only [planR, verR] at *
    by_cases h2 : l.length < 2
    · rw [if_pos h2] at *; rw [if_pos h2]; rfl
    · rw [if_neg h2] at *
      rw [if_neg h2]
      cases hcs : cutsL p l with
      | nil => rw [hcs] at h; cases h
      | cons c cr =>
        have hc : isCut p l c = true := mem_cutsL (by rw [hcs]; simp)
        obtain ⟨w1, w2⟩ := cut_lens hc
        have hsplit := split_len (l := l) (before c)
        rw [hcs] at h
        simp only at h ⊢
        have i1 := fun r' => plan_ver m (half1 p c) (l.filter (before c)) r' (by omega)
        have i2 := fun r' => plan_ver m (half2 p c) (l.filter fun x => !before c x) r' (by omega)
        cases hA : planR m (half1 p c) (l.filter (before c)) with
        | mk cs1 o1 =>
          rw [hA] at h i1
          cases o1 with
          | some q => cases h
          | none =>
            simp only at h ⊢
            cases hB : planR m (half2 p c) (l.filter fun x => !before c x) with
            | mk cs2 o2 =>
              rw [hB] at h i2
              simp only at h
              subst h
              simp only [List.cons_append, hc, cond_true, List.append_assoc]
              have := i1 (cs2 ++ r) rfl
              simp only at this
              rw [this]
              exact i2 r rfl
/-- the piece that is blocked can't be cut, holds labels, and is reached by cuts -/
inductive Reach (S : List Label) : Label → Label → Prop where
  | here (p : Label) : Reach S p p
  | one {p q : Label} {c : Cut} (hc : c ∈ cutsL p (S.filter (insideB p))) (h : Reach S (half1 p c) q) : Reach S p q
  | two {p q : Label} {c : Cut} (hc : c ∈ cutsL p (S.filter (insideB p))) (h : Reach S (half2 p c) q) : Reach S p q
theorem plan_block {S : List Label} (hS : Laid S) : ∀ (m : Nat) (p q : Label), Small p → (S.filter (insideB p)).length ≤ m → (planR m p (S.filter (insideB p))).2 = some q →
    Reach S p q ∧ Small q ∧ 2 ≤ (S.filter (insideB q)).length ∧ cutsL q (S.filter (insideB q)) = []
  | 0, p, q, _, _, h => by cases h
  | m + 1, p, q, hs, hm, h => by
    simp only [planR] at h
    by_cases h2 : (S.filter (insideB p)).length < 2
    · rw [if_pos h2] at h; cases h
    · rw [if_neg h2] at h
      cases hcs : cutsL p (S.filter (insideB p)) with
      | nil =>
        rw [hcs] at h
        simp only [Option.some.injEq] at h
        subst h
        exact ⟨.here _, hs, by omega, hcs⟩
      | cons c cr =>
        have hmem : c ∈ cutsL p (S.filter (insideB p)) := by rw [hcs]; simp
        have hc := mem_cutsL hmem
        have hin := (isCut_parts hc).1
        obtain ⟨w1, w2⟩ := cut_lens hc
        have hsplit := split_len (l := S.filter (insideB p)) (before c)
        rw [hcs] at h
        simp only at h
        rw [← inside_half1_all hS hs hin, ← inside_half2_all hS hs hc] at h
        have e1 := inside_half1_all hS hs hin
        have e2 := inside_half2_all hS hs hc
        cases hA : planR m (half1 p c) (S.filter (insideB (half1 p c))) with
        | mk cs1 o1 =>
          rw [hA] at h
          cases o1 with
          | some q' =>
            simp only [Option.some.injEq] at h
            subst h
            obtain ⟨a1, a2, a3, a4⟩ := plan_block hS m (half1 p c) q' (small_half1 hs hin) (by rw [e1]; omega) (by rw [hA])
            exact ⟨.one hmem a1, a2, a3, a4⟩
          | none =>
            simp only at h
            obtain ⟨a1, a2, a3, a4⟩ := plan_block hS m (half2 p c) q (small_half2 hs hin) (by rw [e2]; omega) h
            exact ⟨.two hmem a1, a2, a3, a4⟩
/-! reached: all ways are tried -/
theorem label_eqB {x y : Label} : (decide (x.X = y.X) && (decide (x.Y = y.Y) && (decide (x.W = y.W) && (decide (x.H = y.H) && true)))) = decide (x = y) := by
  obtain ⟨a, b, c, d⟩ := x
  obtain ⟨a', b', c', d'⟩ := y
  rw [Bool.eq_iff_iff]
  simp
def reachB (S : List Label) (q : Label) : Nat → Label → Bool
  | 0, _ => false
  | m + 1, p => decide (p = q) || (cutsL p (S.filter (insideB p))).any fun c => reachB S q m (half1 p c) || reachB S q m (half2 p c)
theorem reachB_of {S : List Label} (hS : Laid S) : ∀ (m : Nat) (p q : Label), Small p → (S.filter (insideB p)).length < m → Reach S p q → reachB S q m p = true := by
  intro m p q hs hm h
  induction h generalizing m with
  | here p => obtain ⟨m, rfl⟩ : ∃ k, m = k + 1 := ⟨m - 1, by omega⟩; simp [reachB]
  | @one p q c hc h ih =>
    obtain ⟨m, rfl⟩ : ∃ k, m = k + 1 := ⟨m - 1, by omega⟩
    have hc' := mem_cutsL hc
    have hin := (isCut_parts hc').1
    obtain ⟨w1, w2⟩ := cut_lens hc'
    have hsplit := split_len (l := S.filter (insideB p)) (before c)
    have := ih m (small_half1 hs hin) (by rw [inside_half1_all hS hs hin]; omega)
    simp only [reachB, Bool.or_eq_true]
    right
    exact List.any_eq_true.2 ⟨c, hc, by rw [this]; rfl⟩
  | @two p q c hc h ih =>
    obtain ⟨m, rfl⟩ : ∃ k, m = k + 1 := ⟨m - 1, by omega⟩
    have hc' := mem_cutsL hc
    have hin := (isCut_parts hc').1
    obtain ⟨w1, w2⟩ := cut_lens hc'
    have hsplit := split_len (l := S.filter (insideB p)) (before c)
    have := ih m (small_half2 hs hin) (by rw [inside_half2_all hS hs hc']; omega)
    simp only [reachB, Bool.or_eq_true]
    right
    exact List.any_eq_true.2 ⟨c, hc, by rw [this]; simp⟩
theorem filter_twice1 {S : List Label} {p : Label} {c : Cut} (hS : Laid S) (hs : Small p) (hc : inner c p = true) : (S.filter (insideB p)).filter (insideB (half1 p c)) = S.filter (insideB (half1 p c)) := by
  rw [inside_half1_all hS hs hc]
  exact filter_congr' fun x hx => inside_half1 hs (inside_fits hs (hS x (List.mem_filter.1 hx).1) (List.mem_filter.1 hx).2) hc
theorem filter_twice2 {S : List Label} {p : Label} {c : Cut} (hS : Laid S) (hs : Small p) (hc : isCut p (S.filter (insideB p)) c = true) : (S.filter (insideB p)).filter (insideB (half2 p c)) = S.filter (insideB (half2 p c)) := by
  rw [inside_half2_all hS hs hc]
  exact filter_in2 (pc_inside hS hs) hc
theorem anyE_fold {α : Type} {f : α → Bool} {k : Option Bool} : ∀ (l : List α) (i : Nat), foldK (fun _ x (_ : Unit) c => bif f x then some true else c ()) (fun _ => k) i l () = bif l.any f then some true else k
  | [], i => rfl
  | x :: r, i => by
    simp only [foldK, List.any_cons]
    cases f x with
    | true => rfl
    | false => simpa using anyE_fold r (i + 1)
theorem f65_eq {S : List Label} {q : Label} (hS : Laid S) : ∀ (m n : Nat) (p : Label), Small p → (S.filter (insideB p)).length < m → m ≤ 12 → 40 + m < n → f65 n (S.filter (insideB p)) p q = some (reachB S q m p) := by
  intro m
  induction m with
  | zero => intro n p _ h; omega
  | succ m ih =>
    intro n p hs hm hm12 hn
    obtain ⟨n, rfl⟩ : ∃ k, n = k + 1 := ⟨n - 1, by omega⟩
    have hpc := pc_inside hS hs
    simp only [f65, f65b, reachB, label_eqB]
    cases hpq : decide (p = q) with
    | true => rfl
    | false =>
      rw [cond_false, f46_eq hpc.small hpc.fits (by omega) (by omega)]
      simp only [Option.bind_some, joinK, Bool.false_or]
      have hlen : (cutsL p (S.filter (insideB p))).length ≤ 24 := cutsL_len
      have := loopL (l := cutsL p (S.filter (insideB p))) (F := fun k (_ : Unit) j => f65_5 (S.filter (insideB p)) p q n (f65 n) (cutsL p (S.filter (insideB p))) f65_c10 k j) (g := fun _ c (_ : Unit) k => bif reachB S q m (half1 p c) || reachB S q m (half2 p c) then some true else k ()) (k := fun _ => f65_c10)
        (fun k s j c hx => by
          have hi := (List.getElem?_eq_some_iff.1 hx).1
          have hc := mem_cutsL (List.mem_of_getElem? hx)
          have hin := (isCut_parts hc).1
          obtain ⟨w1, w2⟩ := cut_lens hc
          have hsplit := split_len (l := S.filter (insideB p)) (before c)
          have r1 := ih n (half1 p c) (small_half1 hs hin) (by rw [inside_half1_all hS hs hin]; omega) (by omega) (by omega)
          have r2 := ih n (half2 p c) (small_half2 hs hin) (by rw [inside_half2_all hS hs hc]; omega) (by omega) (by omega)
          simp only [f65_5, f65_5b, decide_eq_true (show (j : Int) < ((cutsL p (S.filter (insideB p))).length : Int) by omega), cond_true, ix_nat, hx, Option.bind_some, f64_in hs hin, f62_eq (N := n) (show (S.filter (insideB p)).length ≤ 30 by omega) (by omega), filter_twice1 hS hs hin, filter_twice2 hS hs hc, r1, r2, W_nat (show j < 9223372036854775807 by omega)]
          cases reachB S q m (half1 p c) <;> cases reachB S q m (half2 p c) <;> rfl)
        (fun k s => by simp [f65_5, f65_5b]) n () (by omega)
      refine this.trans ?_
      rw [anyE_fold]
      cases (cutsL p (S.filter (insideB p))).any fun c => reachB S q m (half1 p c) || reachB S q m (half2 p c) <;> rfl
theorem f28_true {N : Nat} {L : Layout} {q : Label} (hv : Valid L) (hq : (planS L).2 = some q) (hN : 60 < N) : f28 N L q = some true := by
  have hlen := hv.len
  have hS := hv.laid
  have hsh := inside_sheet hv
  unfold planS at hq
  rw [show planR L.Labels.length (sheetOf L) L.Labels = planR L.Labels.length (sheetOf L) (L.Labels.filter (insideB (sheetOf L))) by rw [hsh]] at hq
  obtain ⟨a1, a2, a3, a4⟩ := plan_block hS L.Labels.length (sheetOf L) q hv.small (by rw [hsh]; exact Nat.le_refl _) hq
  have hle : (L.Labels.filter (insideB q)).length ≤ 10 := Nat.le_trans (List.length_filter_le _ _) hlen
  have hpc := pc_inside hS a2
  unfold f28
  rw [f62_eq (by omega) (by omega)]
  simp only [Option.bind_some, decide_eq_true (show (1 : Int) < ((L.Labels.filter (insideB q)).length : Int) by omega), cond_true]
  rw [f46_eq hpc.small hpc.fits (by omega) (by omega), a4]
  simp only [Option.bind_some, List.length_nil, Int.ofNat_eq_natCast, Int.natCast_zero, decide_true, cond_true, f47]
  have hb := reachB_of hS 11 (sheetOf L) q hv.small (by rw [hsh]; omega) a1
  have := f65_eq (q := q) hS 11 N (sheetOf L) hv.small (by rw [hsh]; omega) (by omega) (by omega)
  rw [hsh, hb] at this
  simp only [sheetOf] at this
  rw [this]; rfl
theorem works60 (h : f13 60 = some true) : f13 60 = some true := h
theorem f4_true (a : Layout) (pl : List Cut) (hw : f13 61 = some true) : f4 61 a pl = some true := by
  unfold f4
  by_cases c1 : 30 < (a.Labels.length : Int)
  · simp [c1, hw]
  by_cases c2 : 30 < (pl.length : Int)
  · simp [c1, c2, hw]
  have h1 : a.Labels.length ≤ 30 := by omega
  have h2 : pl.length ≤ 30 := by omega
  simp only [c1, c2, decide_false, cond_false, f14_eq (N := 61) h1 (by omega), f22_eq h1 (show 30 < 61 by omega), f23_eq h1 (show 60 < 61 by omega), f24_eq h1 (show 30 < 61 by omega), f25_eq h1 h2 (show 30 < 61 by omega), f27_eq h2 (show 30 < 61 by omega), f26_eq h1 h2 (show 30 < 61 by omega), Option.bind_some, not_true_eq_false]
  by_cases c : checkS a = 0
  · have hv := valid_of c
    have hp := f58_eq (N := 61) hv (by omega)
    have hlen := hv.len
    cases hq : (planS a).2 with
    | none =>
      rw [hq] at hp
      have hpl : (planS a).1.length ≤ 30 := by have := hp.2; omega
      have hver : verS a (planS a).1 = 0 := by
        unfold verS
        rw [if_pos c]
        have := plan_ver a.Labels.length (sheetOf a) a.Labels [] (Nat.le_refl _) hq
        rw [List.append_nil] at this
        show verE (verR _ _ _ (planS a).1) = 0
        rw [show (planS a).1 = (planR a.Labels.length (sheetOf a) a.Labels).1 from rfl, this]; rfl
      have e1 : planA a = ((planS a).1, 0) := by unfold planA; rw [if_pos c, hq]
      have e2 : possS a = 0 := by unfold possS; rw [if_pos c, if_pos hq]
      have e3 : blockA a = (⟨0, 0, 0, 0⟩, 14) := by unfold blockA; rw [if_pos c, hq]
      rw [e1, e2, e3]
      simp [f27_eq hpl (show 30 < 61 by omega), f26_eq h1 hpl (show 30 < 61 by omega), hver, hw]
    | some q =>
      have e1 : planA a = ([], 14) := by unfold planA; rw [if_pos c, hq]
      have e2 : possS a = 14 := by unfold possS; rw [if_pos c, if_neg (by rw [hq]; simp)]
      have e3 : blockA a = (q, 0) := by unfold blockA; rw [if_pos c, hq]
      rw [e1, e2, e3]
      simp [f28_true hv hq (show 60 < 61 by omega), hw]
  · have e1 : planA a = ([], checkS a) := by unfold planA; rw [if_neg c]
    have e2 : possS a = checkS a := by unfold possS; rw [if_neg c]
    have e3 : blockA a = (⟨0, 0, 0, 0⟩, checkS a) := by unfold blockA; rw [if_neg c]
    have hne : checkS a ≠ 14 := by
      unfold checkS
      split; · omega
      split; · omega
      split; · omega
      cases hfs : a.Labels.findSome? (okLabel a) with
      | some e =>
        obtain ⟨x, hx, he⟩ := List.exists_of_findSome?_eq_some hfs
        simp only [Option.getD_some]
        rintro rfl
        unfold okLabel at he
        repeat' (split at he)
        all_goals cases he
      | none =>
        simp only [Option.getD_none]
        cases clashes [] a.Labels <;> simp
    rw [e1, e2, e3]
    simp [c, hne, hw]
end Go.Vc
/-
  PLAIN LAWS OF CUT, 8: labels that can be cut apart: whichever cut comes first.
-/
namespace Go.Vc
set_option linter.unusedVariables false
set_option linter.unnecessarySimpa false
set_option linter.unusedSimpArgs false
set_option linter.unusedSimpArgs false

/-- labels that lines can separate -/
inductive Sep : List Label → Prop where
  | few {l : List Label} (h : l.length ≤ 1) : Sep l
  | cut {l : List Label} (c : Cut) (h : ∀ x, x ∈ l → (before c x || behind c x) = true) (h1 : Sep (l.filter (before c))) (h2 : Sep (l.filter fun x => !before c x)) : Sep l
theorem filter_comm {f g : Label → Bool} {l : List Label} : (l.filter f).filter g = (l.filter g).filter f := by
  rw [List.filter_filter, List.filter_filter]
  exact List.filter_congr fun x _ => Bool.and_comm _ _
theorem Sep.filter {l : List Label} (h : Sep l) (f : Label → Bool) : Sep (l.filter f) := by
  induction h with
  | few h => exact .few (Nat.le_trans (List.length_filter_le _ _) h)
  | cut c h _ _ ih1 ih2 =>
    refine .cut c (fun x hx => h x (List.mem_filter.1 hx).1) ?_ ?_
    · rw [filter_comm]; exact ih1
    · rw [filter_comm]; exact ih2
theorem Sep.perm {l l' : List Label} (h : Sep l) (hp : l.Perm l') : Sep l' := by
  induction h generalizing l' with
  | few h => exact .few (by rw [← hp.length_eq]; exact h)
  | cut c h _ _ ih1 ih2 => exact .cut c (fun x hx => h x (hp.mem_iff.2 hx)) (ih1 (hp.filter _)) (ih2 (hp.filter _))
/-- a line that divides them -/
theorem Sep.line {l : List Label} (h : Sep l) (h2 : 2 ≤ l.length) : ∃ c : Cut, (∀ x, x ∈ l → (before c x || behind c x) = true) ∧ (∃ x, x ∈ l ∧ before c x = true) ∧ (∃ x, x ∈ l ∧ before c x = false) := by
  induction h with
  | few h => omega
  | @cut l c h h1 h2' ih1 ih2 =>
    have hs := split_len (l := l) (before c)
    by_cases e1 : (l.filter (before c)).length = 0
    · have e : (l.filter fun x => !before c x) = l := by
        rw [List.filter_eq_self]
        intro x hx
        cases hb : before c x with
        | false => rfl
        | true => have := List.length_pos_of_mem (List.mem_filter.2 ⟨hx, hb⟩); omega
      rw [e] at ih2
      exact ih2 h2
    · by_cases e2 : (l.filter fun x => !before c x).length = 0
      · have e : (l.filter (before c)) = l := by
          rw [List.filter_eq_self]
          intro x hx
          cases hb : before c x with
          | true => rfl
          | false => have := List.length_pos_of_mem ((List.mem_filter (p := fun x => !before c x)).2 ⟨hx, by rw [hb]; rfl⟩); omega
        rw [e] at ih1
        exact ih1 h2
      · obtain ⟨x, hx⟩ := List.exists_mem_of_length_pos (Nat.pos_of_ne_zero e1)
        obtain ⟨y, hy⟩ := List.exists_mem_of_length_pos (Nat.pos_of_ne_zero e2)
        exact ⟨c, h, ⟨x, (List.mem_filter.1 hx).1, (List.mem_filter.1 hx).2⟩, y, (List.mem_filter.1 hy).1, by simpa using (List.mem_filter.1 hy).2⟩
theorem isCut_of {p : Label} {l : List Label} {c : Cut} (hp : Pc p l) (h : ∀ x, x ∈ l → (before c x || behind c x) = true) (h1 : ∃ x, x ∈ l ∧ before c x = true) (h2 : ∃ x, x ∈ l ∧ before c x = false) : isCut p l c = true := by
  obtain ⟨x, hx, bx⟩ := h1
  obtain ⟨y, hy, bY⟩ := h2
  have hin : inner c p = true := by
    have fx := hp.fits x hx; have fy := hp.fits y hy
    have t1 := fx.w; have t2 := fx.h; have t3 := fx.x0; have t4 := fx.y0
    have u1 := fy.w; have u2 := fy.h; have u5 := fy.x1; have u6 := fy.y1
    have hb := h y hy
    rw [bY, Bool.false_or, behind_iff] at hb
    rw [before_iff] at bx
    unfold inner
    rw [Bool.and_eq_true, decide_eq_true_iff, decide_eq_true_iff]
    obtain ⟨up, a⟩ := c
    cases up with
    | true =>
      have bx : x.X + x.W ≤ a := bx
      have hb : a ≤ y.X := hb
      show p.X + 1 ≤ a ∧ a ≤ p.X + p.W - 1
      omega
    | false =>
      have bx : x.Y + x.H ≤ a := bx
      have hb : a ≤ y.Y := hb
      show p.Y + 1 ≤ a ∧ a ≤ p.Y + p.H - 1
      omega
  unfold isCut
  rw [hin, List.all_eq_true.2 h, List.any_eq_true.2 ⟨x, hx, bx⟩, List.any_eq_true.2 ⟨y, hy, by rw [bY]; rfl⟩]; rfl
theorem cut_mem {p : Label} {l : List Label} {c : Cut} (hs : Small p) (h : isCut p l c = true) : c ∈ cutsL p l := by
  have hin := (isCut_parts h).1
  have s1 := hs.x0; have s2 := hs.y0; have s3 := hs.x1; have s4 := hs.y1
  unfold inner at hin
  rw [Bool.and_eq_true, decide_eq_true_iff, decide_eq_true_iff] at hin
  obtain ⟨up, a⟩ := c
  have ha : 1 ≤ a ∧ a ≤ 11 := by
    cases up with
    | true =>
      have hin : p.X + 1 ≤ a ∧ a ≤ p.X + p.W - 1 := hin
      omega
    | false =>
      have hin : p.Y + 1 ≤ a ∧ a ≤ p.Y + p.H - 1 := hin
      omega
  obtain ⟨i, rfl⟩ : ∃ i : Nat, a = (i : Int) := ⟨a.toNat, by omega⟩
  have hi : i ∈ (List.range' 0 12).filter fun i : Nat => isCut p l ⟨up, (i : Int)⟩ := List.mem_filter.2 ⟨by rw [List.mem_range'_1]; omega, h⟩
  unfold cutsL lineCuts
  rw [List.mem_append]
  cases up with
  | true => exact .inl (List.mem_map.2 ⟨i, hi, rfl⟩)
  | false => exact .inr (List.mem_map.2 ⟨i, hi, rfl⟩)
/-- whichever cut comes first: what lines can separate is separated -/
theorem sep_plan : ∀ (m : Nat) (p : Label) (l : List Label), Pc p l → l.length ≤ m → Sep l → (planR m p l).2 = none
  | 0, _, _, _, _, _ => rfl
  | m + 1, p, l, hp, hm, h => by
    simp only [planR]
    by_cases h2 : l.length < 2
    · rw [if_pos h2]
    · rw [if_neg h2]
      obtain ⟨c0, g1, g2, g3⟩ := h.line (by omega)
      have hmem := cut_mem hp.small (isCut_of hp g1 g2 g3)
      cases hcs : cutsL p l with
      | nil => rw [hcs] at hmem; cases hmem
      | cons c cr =>
        have hc : isCut p l c = true := mem_cutsL (by rw [hcs]; simp)
        obtain ⟨w1, w2⟩ := cut_lens hc
        have hsplit := split_len (l := l) (before c)
        have i1 := sep_plan m (half1 p c) _ (hp.half1 hc) (by omega) (h.filter (before c))
        have i2 := sep_plan m (half2 p c) _ (hp.half2 hc) (by omega) (h.filter fun x => !before c x)
        simp only
        cases hA : planR m (half1 p c) (l.filter (before c)) with
        | mk cs1 o1 =>
          rw [hA] at i1
          simp only at i1
          subst i1
          exact i2
theorem plan_sep : ∀ (m : Nat) (p : Label) (l : List Label), l.length ≤ m → (planR m p l).2 = none → Sep l
  | 0, _, l, hm, _ => .few (by omega)
  | m + 1, p, l, hm, h => by
    simp only [planR] at h
    by_cases h2 : l.length < 2
    · exact .few (by omega)
    · rw [if_neg h2] at h
      cases hcs : cutsL p l with
      | nil => rw [hcs] at h; cases h
      | cons c cr =>
        have hc : isCut p l c = true := mem_cutsL (by rw [hcs]; simp)
        obtain ⟨w1, w2⟩ := cut_lens hc
        have hsplit := split_len (l := l) (before c)
        rw [hcs] at h
        simp only at h
        cases hA : planR m (half1 p c) (l.filter (before c)) with
        | mk cs1 o1 =>
          rw [hA] at h
          cases o1 with
          | some q => cases h
          | none =>
            simp only at h
            exact .cut c (isCut_parts hc).2.1 (plan_sep m (half1 p c) _ (by omega) (by rw [hA])) (plan_sep m (half2 p c) _ (by omega) h)
theorem sep_iff {m : Nat} {p : Label} {l : List Label} (hp : Pc p l) (hm : l.length ≤ m) : (planR m p l).2 = none ↔ Sep l := ⟨plan_sep m p l hm, sep_plan m p l hp hm⟩
end Go.Vc
namespace Go.Vc
open Go.Proofs
set_option linter.unusedVariables false
set_option linter.unnecessarySimpa false
set_option linter.unusedSimpArgs false
def f30_c30 (a0 : Int) (a1 : Int) (b600 : List Int) (b601 : List Int) : Option (Int × Int × Int) :=
 (chkI 13 a0).bind fun _ =>
 (chkI 13 a1).bind fun _ =>
 (ixN b600 (Int.toNat a0 * 13 + Int.toNat a1)).bind fun x4 =>
 (chkI 13 a0).bind fun _ =>
 (chkI 13 a1).bind fun _ =>
 (ixN b601 (Int.toNat a0 * 13 + Int.toNat a1)).bind fun x5 =>
 some (x4, x5, (0 : Int))
def f30_c9 (a0 : Int) (a1 : Int) (a2 : List Kind) (v12 : Int) (r8 : Int → (List Int) → (List Int) → Option (Int × Int × Int)) (b600' : List Int) (b601' : List Int) : Option (Int × Int × Int) :=
 r8 (W (v12 + (1 : Int))) (b600') (b601')
def f30_c12 (a0 : Int) (a1 : Int) (a2 : List Kind) (v12 : Int) (v13 : Int) (r11 : Int → (List Int) → (List Int) → Option (Int × Int × Int)) (b600'' : List Int) (b601'' : List Int) : Option (Int × Int × Int) :=
 r11 (W (v13 + (1 : Int))) (b600'') (b601'')
def f30_c29 (a0 : Int) (a1 : Int) (a2 : List Kind) (v12 : Int) (v13 : Int) (b600' : List Int) (b601' : List Int) (k2 : (List Int) → (List Int) → Option (Int × Int × Int)) (v14'' : Int) (v15'' : Int) : Option (Int × Int × Int) :=
 (chkI 13 v12).bind fun _ =>
 (chkI 13 v13).bind fun _ =>
 (setN (b600') (Int.toNat v12 * 13 + Int.toNat v13) (v14'')).bind fun x7 =>
 (chkI 13 v12).bind fun _ =>
 (chkI 13 v13).bind fun _ =>
 (setN (b601') (Int.toNat v12 * 13 + Int.toNat v13) (v15'')).bind fun x8 =>
 k2 x7 x8
def f30_24b (r24 : Int → Int → Int → Option (Int × Int × Int)) (a0 : Int) (a1 : Int) (a2 : List Kind) (v12 : Int) (v13 : Int) (b600' : List Int) (b601' : List Int) (k3 : Int → Int → Option (Int × Int × Int)) (v14'' : Int) (v15'' : Int) (v20 : Int) : Option (Int × Int × Int) :=
 bif decide (v20 < v13) then ((chkI 13 v12).bind fun _ =>
 (chkI 13 v20).bind fun _ =>
 (ixN (b600') (Int.toNat v12 * 13 + Int.toNat v20)).bind fun x9 =>
 (chkI 13 v12).bind fun _ =>
 (chkI 13 (W (v13 - v20))).bind fun _ =>
 (ixN (b600') (Int.toNat v12 * 13 + Int.toNat (W (v13 - v20)))).bind fun x10 =>
 (chkI 13 v12).bind fun _ =>
 (chkI 13 v20).bind fun _ =>
 (ixN (b601') (Int.toNat v12 * 13 + Int.toNat v20)).bind fun x11 =>
 (chkI 13 v12).bind fun _ =>
 (chkI 13 (W (v13 - v20))).bind fun _ =>
 (ixN (b601') (Int.toNat v12 * 13 + Int.toNat (W (v13 - v20)))).bind fun x12 =>
 bif decide ((v14'') < (W (x9 + x10))) then (r24 (W (x9 + x10)) (W (x11 + x12)) (W (v20 + (1 : Int))))
 else (bif decide ((W (x9 + x10)) = (v14'')) then (bif decide ((W (x11 + x12)) < (v15'')) then (r24 (W (x9 + x10)) (W (x11 + x12)) (W (v20 + (1 : Int))))
 else (r24 (v14'') (v15'') (W (v20 + (1 : Int)))))
 else (r24 (v14'') (v15'') (W (v20 + (1 : Int))))))
 else (k3 (v14'') (v15''))
def f30_24 (a0 : Int) (a1 : Int) (a2 : List Kind) (v12 : Int) (v13 : Int) (b600' : List Int) (b601' : List Int) (k3 : Int → Int → Option (Int × Int × Int)) : Nat → Int → Int → Int → Option (Int × Int × Int)
  | 0, _, _, _ => none
  | n + 1, v14'', v15'', v20 => f30_24b (f30_24 a0 a1 a2 v12 v13 b600' b601' k3 n) a0 a1 a2 v12 v13 b600' b601' k3 v14'' v15'' v20
def f30_c23 (a0 : Int) (a1 : Int) (a2 : List Kind) (N : Nat) (v12 : Int) (v13 : Int) (b600' : List Int) (b601' : List Int) (k2 : (List Int) → (List Int) → Option (Int × Int × Int)) (v14' : Int) (v15' : Int) : Option (Int × Int × Int) :=
 joinK (f30_c29 a0 a1 a2 v12 v13 b600' b601' k2) fun k3 =>
 f30_24 a0 a1 a2 v12 v13 b600' b601' k3 N (v14') (v15') (1 : Int)
def f30_18b (r18 : Int → Int → Int → Option (Int × Int × Int)) (a0 : Int) (a1 : Int) (a2 : List Kind) (v12 : Int) (v13 : Int) (b600' : List Int) (b601' : List Int) (k4 : Int → Int → Option (Int × Int × Int)) (v14' : Int) (v15' : Int) (v17 : Int) : Option (Int × Int × Int) :=
 bif decide (v17 < v12) then ((chkI 13 v17).bind fun _ =>
 (chkI 13 v13).bind fun _ =>
 (ixN (b600') (Int.toNat v17 * 13 + Int.toNat v13)).bind fun x13 =>
 (chkI 13 (W (v12 - v17))).bind fun _ =>
 (chkI 13 v13).bind fun _ =>
 (ixN (b600') (Int.toNat (W (v12 - v17)) * 13 + Int.toNat v13)).bind fun x14 =>
 (chkI 13 v17).bind fun _ =>
 (chkI 13 v13).bind fun _ =>
 (ixN (b601') (Int.toNat v17 * 13 + Int.toNat v13)).bind fun x15 =>
 (chkI 13 (W (v12 - v17))).bind fun _ =>
 (chkI 13 v13).bind fun _ =>
 (ixN (b601') (Int.toNat (W (v12 - v17)) * 13 + Int.toNat v13)).bind fun x16 =>
 bif decide ((v14') < (W (x13 + x14))) then (r18 (W (x13 + x14)) (W (x15 + x16)) (W (v17 + (1 : Int))))
 else (bif decide ((W (x13 + x14)) = (v14')) then (bif decide ((W (x15 + x16)) < (v15')) then (r18 (W (x13 + x14)) (W (x15 + x16)) (W (v17 + (1 : Int))))
 else (r18 (v14') (v15') (W (v17 + (1 : Int)))))
 else (r18 (v14') (v15') (W (v17 + (1 : Int))))))
 else (k4 (v14') (v15'))
def f30_18 (a0 : Int) (a1 : Int) (a2 : List Kind) (v12 : Int) (v13 : Int) (b600' : List Int) (b601' : List Int) (k4 : Int → Int → Option (Int × Int × Int)) : Nat → Int → Int → Int → Option (Int × Int × Int)
  | 0, _, _, _ => none
  | n + 1, v14', v15', v17 => f30_18b (f30_18 a0 a1 a2 v12 v13 b600' b601' k4 n) a0 a1 a2 v12 v13 b600' b601' k4 v14' v15' v17
def f30_c17 (a0 : Int) (a1 : Int) (a2 : List Kind) (N : Nat) (v12 : Int) (v13 : Int) (b600' : List Int) (b601' : List Int) (k2 : (List Int) → (List Int) → Option (Int × Int × Int)) (v14 : Int) (v15 : Int) : Option (Int × Int × Int) :=
 joinK (f30_c23 a0 a1 a2 N v12 v13 b600' b601' k2) fun k4 =>
 f30_18 a0 a1 a2 v12 v13 b600' b601' k4 N v14 v15 (1 : Int)
def f30_11b (r11 : Int → (List Int) → (List Int) → Option (Int × Int × Int)) (a0 : Int) (a1 : Int) (a2 : List Kind) (N : Nat) (v12 : Int) (k1 : (List Int) → (List Int) → Option (Int × Int × Int)) (v13 : Int) (b600' : List Int) (b601' : List Int) : Option (Int × Int × Int) :=
 bif decide (v13 ≤ a1) then (joinK (f30_c12 a0 a1 a2 v12 v13 r11) fun k2 =>
 (f51 N v12 v13 a2).bind fun x6 =>
 joinK (f30_c17 a0 a1 a2 N v12 v13 b600' b601' k2) fun k5 =>
 bif decide ((0 : Int) < x6) then (k5 x6 (1 : Int))
 else (k5 (0 : Int) (0 : Int)))
 else (k1 (b600') (b601'))
def f30_11 (a0 : Int) (a1 : Int) (a2 : List Kind) (N : Nat) (v12 : Int) (k1 : (List Int) → (List Int) → Option (Int × Int × Int)) : Nat → Int → (List Int) → (List Int) → Option (Int × Int × Int)
  | 0, _, _, _ => none
  | n + 1, v13, b600', b601' => f30_11b (f30_11 a0 a1 a2 N v12 k1 n) a0 a1 a2 N v12 k1 v13 b600' b601'
def f30_8b (r8 : Int → (List Int) → (List Int) → Option (Int × Int × Int)) (a0 : Int) (a1 : Int) (a2 : List Kind) (N : Nat) (k0 : (List Int) → (List Int) → Option (Int × Int × Int)) (v12 : Int) (b600 : List Int) (b601 : List Int) : Option (Int × Int × Int) :=
 bif decide (v12 ≤ a0) then (joinK (f30_c9 a0 a1 a2 v12 r8) fun k1 =>
 f30_11 a0 a1 a2 N v12 k1 N (1 : Int) b600 b601)
 else (k0 b600 b601)
def f30_8 (a0 : Int) (a1 : Int) (a2 : List Kind) (N : Nat) (k0 : (List Int) → (List Int) → Option (Int × Int × Int)) : Nat → Int → (List Int) → (List Int) → Option (Int × Int × Int)
  | 0, _, _, _ => none
  | n + 1, v12, b600, b601 => f30_8b (f30_8 a0 a1 a2 N k0 n) a0 a1 a2 N k0 v12 b600 b601
def f30 (N : Nat) (a0 : Int) (a1 : Int) (a2 : List Kind) : Option (Int × Int × Int) :=
 (f56 N a0 (1 : Int) (12 : Int)).bind fun x1 =>
 bif !x1 then (some ((0 : Int), (0 : Int), (3 : Int)))
 else ((f56 N a1 (1 : Int) (12 : Int)).bind fun x2 =>
 bif !x2 then (some ((0 : Int), (0 : Int), (3 : Int)))
 else ((f50 N a2).bind fun x3 =>
 bif decide (¬ x3 = (0 : Int)) then (some ((0 : Int), (0 : Int), x3))
 else (joinK (f30_c30 a0 a1) fun k0 =>
 f30_8 a0 a1 a2 N k0 N (1 : Int) (List.replicate 169 (0 : Int)) (List.replicate 169 (0 : Int)))))
end Go.Vc
namespace Go.Vc
open Go.Proofs
set_option linter.unusedVariables false
set_option linter.unnecessarySimpa false
set_option linter.unusedSimpArgs false
def f5_c11 (a0 : Int) (a1 : Int) (N : Nat) (x2 : List Kind) (x4 : Int × Int × Int) (x5 : Layout × Int) (v12 : Int) : Option (Bool) :=
 bif decide (¬ v12 = (0 : Int)) then (bif decide (x5.2 = v12) then (bif decide (x5.1.W = (0 : Int)) then (bif decide (x5.1.H = (0 : Int)) then (bif decide ((List.length x5.1.Labels : Int) = (0 : Int)) then ((f13 N ).bind fun x6 =>
 some (x6))
 else (some (false)))
 else (some (false)))
 else (some (false)))
 else (some (false)))
 else ((f14 N x5.1).bind fun x7 =>
 (f18 N x7 x2).bind fun x8 =>
 bif decide (x5.2 = (0 : Int)) then (bif decide (x5.1.W = a0) then (bif decide (x5.1.H = a1) then (bif decide (x8.2 = (0 : Int)) then (bif decide (x8.1 = x4.1) then ((f23 N x7).bind fun x9 =>
 bif decide (x9 = (0 : Int)) then ((f13 N ).bind fun x10 =>
 some (x10))
 else (some (false)))
 else (some (false)))
 else (some (false)))
 else (some (false)))
 else (some (false)))
 else (some (false)))
def f5 (N : Nat) (a0 : Int) (a1 : Int) (a2 : List Kind) : Option (Bool) :=
 bif decide ((30 : Int) < (List.length a2 : Int)) then ((f13 N ).bind fun x1 =>
 some (x1))
 else ((f19 N a2).bind fun x2 =>
 (f29 N a0 a1 a2).bind fun x3 =>
 (f30 N a0 a1 x2).bind fun x4 =>
 (f31 N a0 a1 a2).bind fun x5 =>
 bif decide (¬ x3.1 = x4.1) then (some (false))
 else (bif decide (¬ x3.2 = x4.2.2) then (some (false))
 else (joinK (f5_c11 a0 a1 N x2 x4 x5) fun k0 =>
 bif decide (x4.2.2 = (0 : Int)) then (bif decide ((10 : Int) < x4.2.1) then (k0 (16 : Int))
 else (k0 x4.2.2))
 else (k0 x4.2.2))))
end Go.Vc
/-
  PLAIN LAWS OF CUT, 9: the table of the best choices.
-/
namespace Go.Vc
set_option linter.unusedVariables false
set_option linter.unnecessarySimpa false
set_option linter.unusedSimpArgs false
set_option linter.unusedSimpArgs false

def betterB (z o : Choice) : Bool := decide (o.worth < z.worth) || (decide (z.worth = o.worth) && decide (z.labels < o.labels))
theorem f75_eq {N : Nat} {z o : Choice} : f75 N z o = some (betterB z o) := by
  unfold f75 betterB
  cases decide (o.worth < z.worth) <;> cases decide (z.worth = o.worth) <;> rfl
def joinC (x y : Choice) (c : Cut) : Choice := ⟨W (x.worth + y.worth), W (x.labels + y.labels), false, c⟩
def tryC (x y : Choice) (c : Cut) (s : Choice) : Choice := bif betterB (joinC x y c) s then joinC x y c else s
def zeroC : Choice := ⟨0, 0, false, ⟨false, 0⟩⟩
def startC (ks : List Kind) (a b : Nat) : Choice := bif decide (0 < bestV a b ks 0) then ⟨bestV a b ks 0, 1, true, ⟨false, 0⟩⟩ else zeroC
def stepX (T : Nat → Nat → Choice) (a b : Nat) (i : Nat) (s : Choice) : Choice := tryC (T i b) (T (a - i) b) ⟨true, (i : Int)⟩ s
def stepY (T : Nat → Nat → Choice) (a b : Nat) (i : Nat) (s : Choice) : Choice := tryC (T a i) (T a (b - i)) ⟨false, (i : Int)⟩ s
/-- f at 1, 2 .. m - 1 -/
def iter (f : Nat → Choice → Choice) : Nat → Choice → Choice
  | 0, s => s
  | m + 1, s => match m with
    | 0 => s
    | _ + 1 => f m (iter f m s)
theorem iter_one (f : Nat → Choice → Choice) (s : Choice) : iter f 1 s = s := rfl
theorem iter_succ (f : Nat → Choice → Choice) (m : Nat) (s : Choice) (h : 1 ≤ m) : iter f (m + 1) s = f m (iter f m s) := by
  cases m with
  | zero => omega
  | succ m => rfl
theorem iter_congr {f g : Nat → Choice → Choice} : ∀ (m : Nat) (s : Choice), (∀ i s, 1 ≤ i → i < m → f i s = g i s) → iter f m s = iter g m s
  | 0, _, _ => rfl
  | 1, _, _ => rfl
  | m + 2, s, h => by
    rw [iter_succ f (m + 1) s (by omega), iter_succ g (m + 1) s (by omega), iter_congr (m + 1) s (fun i s h1 h2 => h i s h1 (by omega)), h (m + 1) _ (by omega) (by omega)]
def cellC (ks : List Kind) (T : Nat → Nat → Choice) (a b : Nat) : Choice := iter (stepY T a b) b (iter (stepX T a b) a (startC ks a b))
def bestF (ks : List Kind) : Nat → Nat → Nat → Choice
  | 0, _, _ => zeroC
  | k + 1, a, b => cellC ks (bestF ks k) a b
theorem cell_congr {ks : List Kind} {T T' : Nat → Nat → Choice} {a b : Nat} (h : ∀ i j, 1 ≤ i → 1 ≤ j → i ≤ a → j ≤ b → i + j < a + b → T i j = T' i j) (ha : 1 ≤ a) (hb : 1 ≤ b) : cellC ks T a b = cellC ks T' a b := by
  unfold cellC
  rw [iter_congr (f := stepX T a b) (g := stepX T' a b) a _ fun i s h1 h2 => by unfold stepX; rw [h i b h1 hb (by omega) (by omega) (by omega), h (a - i) b (by omega) hb (by omega) (by omega) (by omega)]]
  exact iter_congr b _ fun i s h1 h2 => by unfold stepY; rw [h a i ha h1 (by omega) (by omega) (by omega), h a (b - i) ha (by omega) (by omega) (by omega) (by omega)]
theorem bestF_fuel {ks : List Kind} : ∀ (k k' a b : Nat), 1 ≤ a → 1 ≤ b → a + b ≤ k → a + b ≤ k' → bestF ks k a b = bestF ks k' a b
  | 0, _, _, _, _, _, _, _ => by omega
  | _, 0, _, _, _, _, _, _ => by omega
  | k + 1, k' + 1, a, b, ha, hb, h, h' => by
    simp only [bestF]
    exact cell_congr (fun i j hi hj _ _ hs => bestF_fuel k k' i j hi hj (by omega) (by omega)) ha hb
def best (ks : List Kind) (a b : Nat) : Choice := bestF ks (a + b) a b
theorem best_eq {ks : List Kind} {a b : Nat} (ha : 1 ≤ a) (hb : 1 ≤ b) : best ks a b = cellC ks (best ks) a b := by
  unfold best
  obtain ⟨k, hk⟩ : ∃ k, a + b = k + 1 := ⟨a + b - 1, by omega⟩
  rw [hk]
  simp only [bestF]
  exact cell_congr (fun i j hi hj _ _ hs => bestF_fuel _ _ i j hi hj (by omega) (by omega)) ha hb

/-! Tables. -/
def at13 (i j : Nat) : Nat := i * 13 + j
theorem at_inj {i j i' j' : Nat} (hj : j < 13) (hj' : j' < 13) (h : at13 i j = at13 i' j') : i = i' ∧ j = j' := by unfold at13 at h; omega
theorem chk_ok {α ρ : Type} {i : Nat} (h : i ≤ 12) {k : Unit → Option ρ} : (chkI 13 (i : Int)).bind k = k () := by
  unfold chkI
  rw [if_pos ⟨by omega, by omega⟩]; rfl
theorem toN {i : Nat} : Int.toNat (i : Int) = i := rfl
/-- the cells before (a, b), row by row, are the best ones; the others are still zero -/
structure Tab (ks : List Kind) (w h a b : Nat) (T : List Choice) : Prop where
  len : T.length = 169
  done : ∀ i j, 1 ≤ i → 1 ≤ j → i ≤ w → j ≤ h → (i < a ∨ (i = a ∧ j < b)) → T[at13 i j]? = some (best ks i j)
  zero : ∀ i j, 1 ≤ i → 1 ≤ j → i ≤ w → j ≤ h → ¬ (i < a ∨ (i = a ∧ j < b)) → T[at13 i j]? = some zeroC
theorem Tab.init {ks : List Kind} {w h : Nat} (hw : w ≤ 12) (hh : h ≤ 12) : Tab ks w h 1 1 (List.replicate 169 zeroC) :=
  ⟨List.length_replicate .., fun i j h1 h2 _ _ h => by omega, fun i j h1 h2 h3 h4 _ => by rw [List.getElem?_replicate, if_pos (by unfold at13; omega)]⟩
theorem Tab.set {ks : List Kind} {w h a b : Nat} {T : List Choice} (t : Tab ks w h a b T) (hw : w ≤ 12) (hh : h ≤ 12) (ha : 1 ≤ a) (hb : 1 ≤ b) (haw : a ≤ w) (hbh : b ≤ h) : Tab ks w h a (b + 1) (T.set (at13 a b) (best ks a b)) := by
  have hlt : at13 a b < T.length := by rw [t.len]; unfold at13; omega
  refine ⟨by simp [t.len], fun i j h1 h2 h3 h4 hd => ?_, fun i j h1 h2 h3 h4 hd => ?_⟩
  · rw [List.getElem?_set]
    by_cases he : at13 a b = at13 i j
    · obtain ⟨rfl, rfl⟩ := at_inj (by omega) (by omega) he
      rw [if_pos rfl, if_pos hlt]
    · rw [if_neg he]
      refine t.done i j h1 h2 h3 h4 ?_
      rcases hd with hd | ⟨rfl, hd⟩
      · exact .inl hd
      · by_cases hj : j = b
        · subst hj; exact absurd rfl he
        · exact .inr ⟨rfl, by omega⟩
  · rw [List.getElem?_set, if_neg (fun he => by obtain ⟨rfl, rfl⟩ := at_inj (by omega) (by omega) he; exact hd (.inr ⟨rfl, by omega⟩))]
    exact t.zero i j h1 h2 h3 h4 fun hh => hd (by rcases hh with hh | ⟨rfl, hh⟩; exact .inl hh; exact .inr ⟨rfl, by omega⟩)
theorem Tab.row {ks : List Kind} {w h a : Nat} {T : List Choice} (t : Tab ks w h a (h + 1) T) : Tab ks w h (a + 1) 1 T := by
  refine ⟨t.len, fun i j h1 h2 h3 h4 hd => t.done i j h1 h2 h3 h4 ?_, fun i j h1 h2 h3 h4 hd => t.zero i j h1 h2 h3 h4 fun hh => hd ?_⟩
  · by_cases hi : i = a
    · exact .inr ⟨hi, by omega⟩
    · exact .inl (by omega)
  · exact .inl (by omega)
/-- a loop by an invariant, towards what follows it -/
theorem loopE {σ ρ : Type} {F : Nat → σ → Int → Option ρ} {k : σ → Option ρ} (a b : Nat) (Inv : Nat → σ → Prop) (step : ∀ n s (i : Nat), a ≤ i → i < b → Inv i s → ∃ s', Inv (i + 1) s' ∧ F (n + 1) s (i : Int) = F n s' ((i + 1 : Nat) : Int))
    (fin : ∀ n s, F (n + 1) s (b : Int) = k s) : ∀ (n : Nat) (s : σ), Inv a s → a ≤ b → b - a < n → ∃ s', Inv b s' ∧ F n s (a : Int) = k s' := by
  have key : ∀ (m i n : Nat) (s : σ), i + m = b → a ≤ i → Inv i s → m < n → ∃ s', Inv b s' ∧ F n s (i : Int) = k s' := by
    intro m
    induction m with
    | zero =>
      intro i n s hi _ hI hn
      obtain ⟨n, rfl⟩ : ∃ k, n = k + 1 := ⟨n - 1, by omega⟩
      have : i = b := by omega
      subst this
      exact ⟨s, hI, fin n s⟩
    | succ m ih =>
      intro i n s hi ha hI hn
      obtain ⟨n, rfl⟩ : ∃ k, n = k + 1 := ⟨n - 1, by omega⟩
      obtain ⟨s', h1, h2⟩ := step n s i ha (by omega) hI
      rw [h2]
      exact ih (i + 1) n s' (by omega) (by omega) h1 (by omega)
  intro n s hI hab hn
  exact key (b - a) a n s (by omega) (Nat.le_refl _) hI hn
/-- while a cell is worked at: all else is as before -/
theorem cell_get {T : List Choice} {s : Choice} {a b i j : Nat} (hne : at13 a b ≠ at13 i j) : (T.set (at13 a b) s)[at13 i j]? = T[at13 i j]? := by
  rw [List.getElem?_set, if_neg hne]
theorem ixN_eq {α : Type} {l : List α} {m : Nat} {x : α} (h : l[m]? = some x) : ixN l m = some x := h
theorem setN_eq {α : Type} {l : List α} {m : Nat} {x : α} (h : m < l.length) : setN l m x = some (l.set m x) := by unfold setN; rw [if_pos h]

/-! The table of Best. -/
theorem f29_i403_row14 {N w h a b : Nat} {w0 h0 : Int} {ks : List Kind} {T : List Choice} {k3 : List Choice → Option (Int × Int)} {s0 : Choice} (t : Tab ks w h a b T) (hw : w ≤ 12) (hh : h ≤ 12) (ha : 1 ≤ a) (hb : 1 ≤ b) (haw : a ≤ w) (hbh : b ≤ h) (hN : 30 < N) :
    f29_i403_14 w0 h0 ks N (a : Int) (b : Int) k3 N (1 : Int) (T.set (at13 a b) s0) = k3 (T.set (at13 a b) (iter (stepX (best ks) a b) a s0)) := by
  have hlt : at13 a b < T.length := by rw [t.len]; unfold at13; omega
  obtain ⟨s', h1, h2⟩ := loopE (F := fun n (T : List Choice) i => f29_i403_14 w0 h0 ks N (a : Int) (b : Int) k3 n i T) (k := k3) 1 a (fun i T' => T' = T.set (at13 a b) (iter (stepX (best ks) a b) i s0))
    (fun n s i h1 h2 hI => by
      subst hI
      have e1 : at13 a b ≠ at13 i b := fun he => by have := (at_inj (by omega) (by omega) he).1; omega
      have e2 : at13 a b ≠ at13 (a - i) b := fun he => by have := (at_inj (by omega) (by omega) he).1; omega
      have r1 := t.done i b h1 hb (by omega) hbh (.inl h2)
      have r2 := t.done (a - i) b (by omega) hb (by omega) hbh (.inl (by omega))
      rw [← cell_get (s := iter (stepX (best ks) a b) i s0) e1] at r1
      rw [← cell_get (s := iter (stepX (best ks) a b) i s0) e2] at r2
      have r3 : (T.set (at13 a b) (iter (stepX (best ks) a b) i s0))[at13 a b]? = some (iter (stepX (best ks) a b) i s0) := by rw [List.getElem?_set, if_pos rfl, if_pos hlt]
      have hsub : W ((a : Int) - (i : Int)) = ((a - i : Nat) : Int) := by rw [W_in (by omega) (by omega)]; omega
      refine ⟨_, rfl, ?_⟩
      rw [iter_succ _ _ _ h1]
      simp only [f29_i403_14, f29_i403_14b, decide_eq_true (show (i : Int) < (a : Int) by omega), cond_true, hsub, chk_ok (α := Unit) (show i ≤ 12 by omega), chk_ok (α := Unit) (show b ≤ 12 by omega), chk_ok (α := Unit) (show a - i ≤ 12 by omega), toN]
      rw [ixN_eq (m := i * 13 + b) r1]
      simp only [Option.bind_some]
      rw [ixN_eq (m := (a - i) * 13 + b) r2]
      simp only [Option.bind_some]
      rw [ixN_eq (m := a * 13 + b) r3]
      simp only [Option.bind_some, f75_eq, stepX, tryC, joinC, W_nat (show i < 9223372036854775807 by omega)]
      cases betterB (⟨W ((best ks i b).worth + (best ks (a - i) b).worth), W ((best ks i b).labels + (best ks (a - i) b).labels), false, ⟨true, (i : Int)⟩⟩) (iter (stepX (best ks) a b) i s0) with
      | true =>
        rw [cond_true, cond_true, setN_eq (m := a * 13 + b) (by rw [List.length_set]; exact hlt)]
        simp only [Option.bind_some]
        rw [show a * 13 + b = at13 a b from rfl, List.set_set]
      | false => rfl)
    (fun n s => by simp [f29_i403_14, f29_i403_14b]) N _ rfl ha (by omega)
  rw [h1] at h2; exact h2
theorem f29_i403_row18 {N w h a b : Nat} {w0 h0 : Int} {ks : List Kind} {T : List Choice} {k3 : List Choice → Option (Int × Int)} {s0 : Choice} (t : Tab ks w h a b T) (hw : w ≤ 12) (hh : h ≤ 12) (ha : 1 ≤ a) (hb : 1 ≤ b) (haw : a ≤ w) (hbh : b ≤ h) (hN : 30 < N) :
    f29_i403_18 w0 h0 ks N (a : Int) (b : Int) k3 N (1 : Int) (T.set (at13 a b) s0) = k3 (T.set (at13 a b) (iter (stepY (best ks) a b) b s0)) := by
  have hlt : at13 a b < T.length := by rw [t.len]; unfold at13; omega
  obtain ⟨s', h1, h2⟩ := loopE (F := fun n (T : List Choice) i => f29_i403_18 w0 h0 ks N (a : Int) (b : Int) k3 n i T) (k := k3) 1 b (fun i T' => T' = T.set (at13 a b) (iter (stepY (best ks) a b) i s0))
    (fun n s i h1 h2 hI => by
      subst hI
      have e1 : at13 a b ≠ at13 a i := fun he => by have := (at_inj (by omega) (by omega) he).2; omega
      have e2 : at13 a b ≠ at13 a (b - i) := fun he => by have := (at_inj (by omega) (by omega) he).2; omega
      have r1 := t.done a i ha h1 haw (by omega) (.inr ⟨rfl, h2⟩)
      have r2 := t.done a (b - i) ha (by omega) haw (by omega) (.inr ⟨rfl, by omega⟩)
      rw [← cell_get (s := iter (stepY (best ks) a b) i s0) e1] at r1
      rw [← cell_get (s := iter (stepY (best ks) a b) i s0) e2] at r2
      have r3 : (T.set (at13 a b) (iter (stepY (best ks) a b) i s0))[at13 a b]? = some (iter (stepY (best ks) a b) i s0) := by rw [List.getElem?_set, if_pos rfl, if_pos hlt]
      have hsub : W ((b : Int) - (i : Int)) = ((b - i : Nat) : Int) := by rw [W_in (by omega) (by omega)]; omega
      refine ⟨_, rfl, ?_⟩
      rw [iter_succ _ _ _ h1]
      simp only [f29_i403_18, f29_i403_18b, decide_eq_true (show (i : Int) < (b : Int) by omega), cond_true, hsub, chk_ok (α := Unit) (show i ≤ 12 by omega), chk_ok (α := Unit) (show a ≤ 12 by omega), chk_ok (α := Unit) (show b - i ≤ 12 by omega), toN]
      rw [ixN_eq (m := a * 13 + i) r1]
      simp only [Option.bind_some]
      rw [ixN_eq (m := a * 13 + (b - i)) r2]
      simp only [Option.bind_some]
      rw [ixN_eq (m := a * 13 + b) r3]
      simp only [Option.bind_some, f75_eq, stepY, tryC, joinC, W_nat (show i < 9223372036854775807 by omega)]
      cases betterB (⟨W ((best ks a i).worth + (best ks a (b - i)).worth), W ((best ks a i).labels + (best ks a (b - i)).labels), false, ⟨false, (i : Int)⟩⟩) (iter (stepY (best ks) a b) i s0) with
      | true =>
        rw [cond_true, cond_true, setN_eq (m := a * 13 + b) (by rw [List.length_set]; exact hlt)]
        simp only [Option.bind_some]
        rw [show a * 13 + b = at13 a b from rfl, List.set_set]
      | false => rfl)
    (fun n s => by simp [f29_i403_18, f29_i403_18b]) N _ rfl hb (by omega)
  rw [h1] at h2; exact h2
theorem f29_i403_tab {N w h : Nat} {ks : List Kind} {k0 : List Choice → Option (Int × Int)} (hw : w ≤ 12) (hh : h ≤ 12) (h1w : 1 ≤ w) (h1h : 1 ≤ h) (hk : ks.length ≤ 30) (hN : 30 < N) :
    ∃ T, Tab ks w h (w + 1) 1 T ∧ f29_i403_3 (w : Int) (h : Int) ks N k0 N (1 : Int) (List.replicate 169 zeroC) = k0 T := by
  refine loopE (F := fun n (T : List Choice) i => f29_i403_3 (w : Int) (h : Int) ks N k0 n i T) (k := k0) 1 (w + 1) (fun a T => Tab ks w h a 1 T) (fun n T a h1 h2 hI => ?_) (fun n s => by simp only [f29_i403_3, f29_i403_3b, decide_eq_false (show ¬ ((w + 1 : Nat) : Int) ≤ (w : Int) by omega), cond_false]) N _ (Tab.init hw hh) (by omega) (by omega)
  obtain ⟨T', i1, i2⟩ := loopE (F := fun m (T : List Choice) i => f29_i403_6 (w : Int) (h : Int) ks N (a : Int) (f29_i403_c4 (w : Int) (h : Int) ks (a : Int) (f29_i403_3 (w : Int) (h : Int) ks N k0 n)) m i T) (k := f29_i403_c4 (w : Int) (h : Int) ks (a : Int) (f29_i403_3 (w : Int) (h : Int) ks N k0 n)) 1 (h + 1) (fun b T => Tab ks w h a b T)
    (fun m T b g1 g2 t => by
      have hlt : at13 a b < T.length := by rw [t.len]; unfold at13; omega
      refine ⟨_, t.set hw hh h1 g1 (by omega) (by omega), ?_⟩
      have hz := t.zero a b h1 g1 (by omega) (by omega) (by omega)
      have hself : T.set (at13 a b) zeroC = T := by
        apply List.ext_getElem?
        intro k
        rw [List.getElem?_set]
        by_cases he : at13 a b = k
        · subst he; rw [if_pos rfl, if_pos hlt, hz]
        · rw [if_neg he]
      simp only [f29_i403_6, f29_i403_6b, decide_eq_true (show (b : Int) ≤ (h : Int) by omega), cond_true, joinK, chk_ok (α := Unit) (show a ≤ 12 by omega), chk_ok (α := Unit) (show b ≤ 12 by omega), f49_eq hk hN, Option.bind_some, toN]
      have go : ∀ s0, f29_i403_c12 (w : Int) (h : Int) ks N (a : Int) (b : Int) (f29_i403_c7 (w : Int) (h : Int) ks (a : Int) (b : Int) (f29_i403_6 (w : Int) (h : Int) ks N (a : Int) (f29_i403_c4 (w : Int) (h : Int) ks (a : Int) (f29_i403_3 (w : Int) (h : Int) ks N k0 n)) m)) (T.set (at13 a b) s0) = f29_i403_6 (w : Int) (h : Int) ks N (a : Int) (f29_i403_c4 (w : Int) (h : Int) ks (a : Int) (f29_i403_3 (w : Int) (h : Int) ks N k0 n)) m ((b + 1 : Nat) : Int) (T.set (at13 a b) (iter (stepY (best ks) a b) b (iter (stepX (best ks) a b) a s0))) := by
        intro s0
        simp only [f29_i403_c12, joinK]
        rw [f29_i403_row14 t hw hh h1 g1 (by omega) (by omega) hN]
        simp only [f29_i403_c17]
        rw [f29_i403_row18 t hw hh h1 g1 (by omega) (by omega) hN]
        simp only [f29_i403_c7, W_nat (show b < 9223372036854775807 by omega)]
      rw [best_eq h1 g1]
      unfold cellC startC
      cases decide (0 < bestV (a : Int) (b : Int) ks 0) with
      | true =>
        rw [cond_true, cond_true, setN_eq (m := a * 13 + b) hlt]
        simp only [Option.bind_some]
        exact go _
      | false =>
        rw [cond_false, cond_false]
        have := go zeroC
        rw [hself] at this
        exact this)
    (fun m s => by simp only [f29_i403_6, f29_i403_6b, decide_eq_false (show ¬ ((h + 1 : Nat) : Int) ≤ (h : Int) by omega), cond_false]) N T hI (by omega) (by omega)
  refine ⟨T', i1.row, ?_⟩
  simp only [f29_i403_3, f29_i403_3b, decide_eq_true (show (a : Int) ≤ (w : Int) by omega), cond_true, joinK]
  refine Eq.trans i2 ?_
  simp only [f29_i403_c4, W_nat (show a < 9223372036854775807 by omega)]

/-! The table of Lay. -/
theorem f31_i403_row14 {N w h a b : Nat} {w0 h0 : Int} {ks : List Kind} {T : List Choice} {k3 : List Choice → Option (Layout × Int)} {s0 : Choice} (t : Tab ks w h a b T) (hw : w ≤ 12) (hh : h ≤ 12) (ha : 1 ≤ a) (hb : 1 ≤ b) (haw : a ≤ w) (hbh : b ≤ h) (hN : 30 < N) :
    f31_i403_14 w0 h0 ks N (a : Int) (b : Int) k3 N (1 : Int) (T.set (at13 a b) s0) = k3 (T.set (at13 a b) (iter (stepX (best ks) a b) a s0)) := by
  have hlt : at13 a b < T.length := by rw [t.len]; unfold at13; omega
  obtain ⟨s', h1, h2⟩ := loopE (F := fun n (T : List Choice) i => f31_i403_14 w0 h0 ks N (a : Int) (b : Int) k3 n i T) (k := k3) 1 a (fun i T' => T' = T.set (at13 a b) (iter (stepX (best ks) a b) i s0))
    (fun n s i h1 h2 hI => by
      subst hI
      have e1 : at13 a b ≠ at13 i b := fun he => by have := (at_inj (by omega) (by omega) he).1; omega
      have e2 : at13 a b ≠ at13 (a - i) b := fun he => by have := (at_inj (by omega) (by omega) he).1; omega
      have r1 := t.done i b h1 hb (by omega) hbh (.inl h2)
      have r2 := t.done (a - i) b (by omega) hb (by omega) hbh (.inl (by omega))
      rw [← cell_get (s := iter (stepX (best ks) a b) i s0) e1] at r1
      rw [← cell_get (s := iter (stepX (best ks) a b) i s0) e2] at r2
      have r3 : (T.set (at13 a b) (iter (stepX (best ks) a b) i s0))[at13 a b]? = some (iter (stepX (best ks) a b) i s0) := by rw [List.getElem?_set, if_pos rfl, if_pos hlt]
      have hsub : W ((a : Int) - (i : Int)) = ((a - i : Nat) : Int) := by rw [W_in (by omega) (by omega)]; omega
      refine ⟨_, rfl, ?_⟩
      rw [iter_succ _ _ _ h1]
      simp only [f31_i403_14, f31_i403_14b, decide_eq_true (show (i : Int) < (a : Int) by omega), cond_true, hsub, chk_ok (α := Unit) (show i ≤ 12 by omega), chk_ok (α := Unit) (show b ≤ 12 by omega), chk_ok (α := Unit) (show a - i ≤ 12 by omega), toN]
      rw [ixN_eq (m := i * 13 + b) r1]
      simp only [Option.bind_some]
      rw [ixN_eq (m := (a - i) * 13 + b) r2]
      simp only [Option.bind_some]
      rw [ixN_eq (m := a * 13 + b) r3]
      simp only [Option.bind_some, f75_eq, stepX, tryC, joinC, W_nat (show i < 9223372036854775807 by omega)]
      cases betterB (⟨W ((best ks i b).worth + (best ks (a - i) b).worth), W ((best ks i b).labels + (best ks (a - i) b).labels), false, ⟨true, (i : Int)⟩⟩) (iter (stepX (best ks) a b) i s0) with
      | true =>
        rw [cond_true, cond_true, setN_eq (m := a * 13 + b) (by rw [List.length_set]; exact hlt)]
        simp only [Option.bind_some]
        rw [show a * 13 + b = at13 a b from rfl, List.set_set]
      | false => rfl)
    (fun n s => by simp [f31_i403_14, f31_i403_14b]) N _ rfl ha (by omega)
  rw [h1] at h2; exact h2
theorem f31_i403_row18 {N w h a b : Nat} {w0 h0 : Int} {ks : List Kind} {T : List Choice} {k3 : List Choice → Option (Layout × Int)} {s0 : Choice} (t : Tab ks w h a b T) (hw : w ≤ 12) (hh : h ≤ 12) (ha : 1 ≤ a) (hb : 1 ≤ b) (haw : a ≤ w) (hbh : b ≤ h) (hN : 30 < N) :
    f31_i403_18 w0 h0 ks N (a : Int) (b : Int) k3 N (1 : Int) (T.set (at13 a b) s0) = k3 (T.set (at13 a b) (iter (stepY (best ks) a b) b s0)) := by
  have hlt : at13 a b < T.length := by rw [t.len]; unfold at13; omega
  obtain ⟨s', h1, h2⟩ := loopE (F := fun n (T : List Choice) i => f31_i403_18 w0 h0 ks N (a : Int) (b : Int) k3 n i T) (k := k3) 1 b (fun i T' => T' = T.set (at13 a b) (iter (stepY (best ks) a b) i s0))
    (fun n s i h1 h2 hI => by
      subst hI
      have e1 : at13 a b ≠ at13 a i := fun he => by have := (at_inj (by omega) (by omega) he).2; omega
      have e2 : at13 a b ≠ at13 a (b - i) := fun he => by have := (at_inj (by omega) (by omega) he).2; omega
      have r1 := t.done a i ha h1 haw (by omega) (.inr ⟨rfl, h2⟩)
      have r2 := t.done a (b - i) ha (by omega) haw (by omega) (.inr ⟨rfl, by omega⟩)
      rw [← cell_get (s := iter (stepY (best ks) a b) i s0) e1] at r1
      rw [← cell_get (s := iter (stepY (best ks) a b) i s0) e2] at r2
      have r3 : (T.set (at13 a b) (iter (stepY (best ks) a b) i s0))[at13 a b]? = some (iter (stepY (best ks) a b) i s0) := by rw [List.getElem?_set, if_pos rfl, if_pos hlt]
      have hsub : W ((b : Int) - (i : Int)) = ((b - i : Nat) : Int) := by rw [W_in (by omega) (by omega)]; omega
      refine ⟨_, rfl, ?_⟩
      rw [iter_succ _ _ _ h1]
      simp only [f31_i403_18, f31_i403_18b, decide_eq_true (show (i : Int) < (b : Int) by omega), cond_true, hsub, chk_ok (α := Unit) (show i ≤ 12 by omega), chk_ok (α := Unit) (show a ≤ 12 by omega), chk_ok (α := Unit) (show b - i ≤ 12 by omega), toN]
      rw [ixN_eq (m := a * 13 + i) r1]
      simp only [Option.bind_some]
      rw [ixN_eq (m := a * 13 + (b - i)) r2]
      simp only [Option.bind_some]
      rw [ixN_eq (m := a * 13 + b) r3]
      simp only [Option.bind_some, f75_eq, stepY, tryC, joinC, W_nat (show i < 9223372036854775807 by omega)]
      cases betterB (⟨W ((best ks a i).worth + (best ks a (b - i)).worth), W ((best ks a i).labels + (best ks a (b - i)).labels), false, ⟨false, (i : Int)⟩⟩) (iter (stepY (best ks) a b) i s0) with
      | true =>
        rw [cond_true, cond_true, setN_eq (m := a * 13 + b) (by rw [List.length_set]; exact hlt)]
        simp only [Option.bind_some]
        rw [show a * 13 + b = at13 a b from rfl, List.set_set]
      | false => rfl)
    (fun n s => by simp [f31_i403_18, f31_i403_18b]) N _ rfl hb (by omega)
  rw [h1] at h2; exact h2
theorem f31_i403_tab {N w h : Nat} {ks : List Kind} {k0 : List Choice → Option (Layout × Int)} (hw : w ≤ 12) (hh : h ≤ 12) (h1w : 1 ≤ w) (h1h : 1 ≤ h) (hk : ks.length ≤ 30) (hN : 30 < N) :
    ∃ T, Tab ks w h (w + 1) 1 T ∧ f31_i403_3 (w : Int) (h : Int) ks N k0 N (1 : Int) (List.replicate 169 zeroC) = k0 T := by
  refine loopE (F := fun n (T : List Choice) i => f31_i403_3 (w : Int) (h : Int) ks N k0 n i T) (k := k0) 1 (w + 1) (fun a T => Tab ks w h a 1 T) (fun n T a h1 h2 hI => ?_) (fun n s => by simp only [f31_i403_3, f31_i403_3b, decide_eq_false (show ¬ ((w + 1 : Nat) : Int) ≤ (w : Int) by omega), cond_false]) N _ (Tab.init hw hh) (by omega) (by omega)
  obtain ⟨T', i1, i2⟩ := loopE (F := fun m (T : List Choice) i => f31_i403_6 (w : Int) (h : Int) ks N (a : Int) (f31_i403_c4 (w : Int) (h : Int) ks (a : Int) (f31_i403_3 (w : Int) (h : Int) ks N k0 n)) m i T) (k := f31_i403_c4 (w : Int) (h : Int) ks (a : Int) (f31_i403_3 (w : Int) (h : Int) ks N k0 n)) 1 (h + 1) (fun b T => Tab ks w h a b T)
    (fun m T b g1 g2 t => by
      have hlt : at13 a b < T.length := by rw [t.len]; unfold at13; omega
      refine ⟨_, t.set hw hh h1 g1 (by omega) (by omega), ?_⟩
      have hz := t.zero a b h1 g1 (by omega) (by omega) (by omega)
      have hself : T.set (at13 a b) zeroC = T := by
        apply List.ext_getElem?
        intro k
        rw [List.getElem?_set]
        by_cases he : at13 a b = k
        · subst he; rw [if_pos rfl, if_pos hlt, hz]
        · rw [if_neg he]
      simp only [f31_i403_6, f31_i403_6b, decide_eq_true (show (b : Int) ≤ (h : Int) by omega), cond_true, joinK, chk_ok (α := Unit) (show a ≤ 12 by omega), chk_ok (α := Unit) (show b ≤ 12 by omega), f49_eq hk hN, Option.bind_some, toN]
      have go : ∀ s0, f31_i403_c12 (w : Int) (h : Int) ks N (a : Int) (b : Int) (f31_i403_c7 (w : Int) (h : Int) ks (a : Int) (b : Int) (f31_i403_6 (w : Int) (h : Int) ks N (a : Int) (f31_i403_c4 (w : Int) (h : Int) ks (a : Int) (f31_i403_3 (w : Int) (h : Int) ks N k0 n)) m)) (T.set (at13 a b) s0) = f31_i403_6 (w : Int) (h : Int) ks N (a : Int) (f31_i403_c4 (w : Int) (h : Int) ks (a : Int) (f31_i403_3 (w : Int) (h : Int) ks N k0 n)) m ((b + 1 : Nat) : Int) (T.set (at13 a b) (iter (stepY (best ks) a b) b (iter (stepX (best ks) a b) a s0))) := by
        intro s0
        simp only [f31_i403_c12, joinK]
        rw [f31_i403_row14 t hw hh h1 g1 (by omega) (by omega) hN]
        simp only [f31_i403_c17]
        rw [f31_i403_row18 t hw hh h1 g1 (by omega) (by omega) hN]
        simp only [f31_i403_c7, W_nat (show b < 9223372036854775807 by omega)]
      rw [best_eq h1 g1]
      unfold cellC startC
      cases decide (0 < bestV (a : Int) (b : Int) ks 0) with
      | true =>
        rw [cond_true, cond_true, setN_eq (m := a * 13 + b) hlt]
        simp only [Option.bind_some]
        exact go _
      | false =>
        rw [cond_false, cond_false]
        have := go zeroC
        rw [hself] at this
        exact this)
    (fun m s => by simp only [f31_i403_6, f31_i403_6b, decide_eq_false (show ¬ ((h + 1 : Nat) : Int) ≤ (h : Int) by omega), cond_false]) N T hI (by omega) (by omega)
  refine ⟨T', i1.row, ?_⟩
  simp only [f31_i403_3, f31_i403_3b, decide_eq_true (show (a : Int) ≤ (w : Int) by omega), cond_true, joinK]
  refine Eq.trans i2 ?_
  simp only [f31_i403_c4, W_nat (show a < 9223372036854775807 by omega)]

def askedS (w h : Int) (ks : List Kind) : Int := if ¬ (1 ≤ w ∧ w ≤ 12) then 3 else if ¬ (1 ≤ h ∧ h ≤ 12) then 3 else kindsS ks
theorem f66_eq {N : Nat} {w h : Int} {ks : List Kind} (hk : ks.length ≤ 30) (hN : 30 < N) : f66 N w h ks = some (askedS w h ks) := by
  unfold f66 askedS
  simp only [f52_eq, Option.bind_some, f48_eq hk hN]
  by_cases c1 : 1 ≤ w ∧ w ≤ 12
  · by_cases c2 : 1 ≤ h ∧ h ≤ 12
    · simp [c1, c2]
    · have : (decide (1 ≤ h) && decide (h ≤ 12)) = false := by simpa using c2
      simp [c1, c2, this]
  · have : (decide (1 ≤ w) && decide (w ≤ 12)) = false := by simpa using c1
    simp [c1, this]
theorem asked_ok {w h : Int} {ks : List Kind} (h0 : askedS w h ks = 0) : (1 ≤ w ∧ w ≤ 12) ∧ (1 ≤ h ∧ h ≤ 12) ∧ kindsS ks = 0 := by
  unfold askedS at h0
  split at h0; · cases h0
  split at h0; · cases h0
  rename_i h1 h2
  exact ⟨Classical.not_not.1 h1, Classical.not_not.1 h2, h0⟩
def bestS (w h : Int) (ks : List Kind) : Int × Int := if askedS w h ks = 0 then ((best ks w.toNat h.toNat).worth, 0) else (0, askedS w h ks)
theorem f29_eq {N : Nat} {w h : Int} {ks : List Kind} (hk : ks.length ≤ 30) (hN : 30 < N) : f29 N w h ks = some (bestS w h ks) := by
  unfold f29 bestS
  simp only [f66_eq hk hN, Option.bind_some]
  by_cases c : askedS w h ks = 0
  · obtain ⟨h1, h2, _⟩ := asked_ok c
    obtain ⟨a, rfl⟩ : ∃ a : Nat, w = (a : Int) := ⟨w.toNat, by omega⟩
    obtain ⟨b, rfl⟩ : ∃ b : Nat, h = (b : Int) := ⟨h.toNat, by omega⟩
    obtain ⟨T, t1, t2⟩ := f29_i403_tab (N := N) (w := a) (h := b) (ks := ks) (k0 := f29_i403_c21 (a : Int) (b : Int)) (by omega) (by omega) (by omega) (by omega) hk hN
    rw [if_pos c, decide_eq_false (Classical.not_not.2 c), cond_false]
    simp only [joinK]
    refine Eq.trans t2 ?_
    simp only [f29_i403_c21, chk_ok (α := Unit) (show a ≤ 12 by omega), chk_ok (α := Unit) (show b ≤ 12 by omega), toN]
    rw [ixN_eq (m := a * 13 + b) (t1.done a b (by omega) (by omega) (Nat.le_refl _) (Nat.le_refl _) (.inl (by omega)))]
    rfl
  · rw [if_neg c, decide_eq_true c]; rfl
end Go.Vc
/-
  PLAIN LAWS OF CUT, 10: the document's table; layouts of the best worth; the statement CutBest.
-/
namespace Go.Vc
set_option linter.unusedVariables false
set_option linter.unnecessarySimpa false
set_option linter.unusedSimpArgs false
set_option linter.unusedSimpArgs false

/-! The table of Most. -/
structure TabI (f : Choice → Int) (ks : List Kind) (w h a b : Nat) (T : List Int) : Prop where
  len : T.length = 169
  done : ∀ i j, 1 ≤ i → 1 ≤ j → i ≤ w → j ≤ h → (i < a ∨ (i = a ∧ j < b)) → T[at13 i j]? = some (f (best ks i j))
theorem TabI.init {f : Choice → Int} {ks : List Kind} {w h : Nat} : TabI f ks w h 1 1 (List.replicate 169 (0 : Int)) :=
  ⟨List.length_replicate .., fun i j h1 h2 _ _ h => by omega⟩
theorem TabI.set {f : Choice → Int} {ks : List Kind} {w h a b : Nat} {T : List Int} (t : TabI f ks w h a b T) (hw : w ≤ 12) (hh : h ≤ 12) (ha : 1 ≤ a) (hb : 1 ≤ b) (haw : a ≤ w) (hbh : b ≤ h) : TabI f ks w h a (b + 1) (T.set (at13 a b) (f (best ks a b))) := by
  have hlt : at13 a b < T.length := by rw [t.len]; unfold at13; omega
  refine ⟨by simp [t.len], fun i j h1 h2 h3 h4 hd => ?_⟩
  rw [List.getElem?_set]
  by_cases he : at13 a b = at13 i j
  · obtain ⟨rfl, rfl⟩ := at_inj (by omega) (by omega) he
    rw [if_pos rfl, if_pos hlt]
  · rw [if_neg he]
    refine t.done i j h1 h2 h3 h4 ?_
    rcases hd with hd | ⟨rfl, hd⟩
    · exact .inl hd
    · by_cases hj : j = b
      · subst hj; exact absurd rfl he
      · exact .inr ⟨rfl, by omega⟩
theorem TabI.row {f : Choice → Int} {ks : List Kind} {w h a : Nat} {T : List Int} (t : TabI f ks w h a (h + 1) T) : TabI f ks w h (a + 1) 1 T := by
  refine ⟨t.len, fun i j h1 h2 h3 h4 hd => t.done i j h1 h2 h3 h4 ?_⟩
  by_cases hi : i = a
  · exact .inr ⟨hi, by omega⟩
  · exact .inl (by omega)
theorem better_bif {α : Type} {z s : Choice} {A B : α} : (bif decide (s.worth < z.worth) then A else (bif decide (z.worth = s.worth) then (bif decide (z.labels < s.labels) then A else B) else B)) = bif betterB z s then A else B := by
  unfold betterB
  cases decide (s.worth < z.worth) <;> cases decide (z.worth = s.worth) <;> cases decide (z.labels < s.labels) <;> rfl
abbrev wo : Choice → Int := Choice.worth
abbrev la : Choice → Int := Choice.labels
theorem f30_row18 {N w h a b : Nat} {w0 h0 : Int} {ks : List Kind} {T U : List Int} {k4 : Int → Int → Option (Int × Int × Int)} {s0 : Choice} (t : TabI wo ks w h a b T) (u : TabI la ks w h a b U) (hw : w ≤ 12) (hh : h ≤ 12) (ha : 1 ≤ a) (hb : 1 ≤ b) (haw : a ≤ w) (hbh : b ≤ h) (hN : 30 < N) :
    f30_18 w0 h0 ks (a : Int) (b : Int) T U k4 N s0.worth s0.labels (1 : Int) = k4 (iter (stepX (best ks) a b) a s0).worth (iter (stepX (best ks) a b) a s0).labels := by
  obtain ⟨s', h1, h2⟩ := loopE (F := fun n (s : Int × Int) i => f30_18 w0 h0 ks (a : Int) (b : Int) T U k4 n s.1 s.2 i) (k := fun s => k4 s.1 s.2) 1 a (fun i s => s = ((iter (stepX (best ks) a b) i s0).worth, (iter (stepX (best ks) a b) i s0).labels))
    (fun n s i h1 h2 hI => by
      subst hI
      have r1 : T[at13 i b]? = some (best ks i b).worth := t.done i b h1 hb (by omega) hbh (.inl h2)
      have r2 : T[at13 (a - i) b]? = some (best ks (a - i) b).worth := t.done (a - i) b (by omega) hb (by omega) hbh (.inl (by omega))
      have q1 : U[at13 i b]? = some (best ks i b).labels := u.done i b h1 hb (by omega) hbh (.inl h2)
      have q2 : U[at13 (a - i) b]? = some (best ks (a - i) b).labels := u.done (a - i) b (by omega) hb (by omega) hbh (.inl (by omega))
      have hsub : W ((a : Int) - (i : Int)) = ((a - i : Nat) : Int) := by rw [W_in (by omega) (by omega)]; omega
      refine ⟨_, rfl, ?_⟩
      rw [iter_succ _ _ _ h1]
      generalize iter (stepX (best ks) a b) i s0 = s
      simp only [f30_18, f30_18b, decide_eq_true (show (i : Int) < (a : Int) by omega), cond_true, hsub, chk_ok (α := Unit) (show i ≤ 12 by omega), chk_ok (α := Unit) (show b ≤ 12 by omega), chk_ok (α := Unit) (show a - i ≤ 12 by omega), toN]
      rw [ixN_eq (m := i * 13 + b) r1]
      simp only [Option.bind_some]
      rw [ixN_eq (m := (a - i) * 13 + b) r2]
      simp only [Option.bind_some]
      rw [ixN_eq (m := i * 13 + b) q1]
      simp only [Option.bind_some]
      rw [ixN_eq (m := (a - i) * 13 + b) q2]
      simp only [Option.bind_some, W_nat (show i < 9223372036854775807 by omega)]
      refine Eq.trans (better_bif (z := joinC (best ks i b) (best ks (a - i) b) ⟨true, (i : Int)⟩) (s := s)) ?_
      unfold stepX tryC
      cases betterB (joinC (best ks i b) (best ks (a - i) b) ⟨true, (i : Int)⟩) s <;> rfl)
    (fun n s => by simp [f30_18, f30_18b]) N (s0.worth, s0.labels) rfl ha (by omega)
  rw [h1] at h2; exact h2
theorem f30_row24 {N w h a b : Nat} {w0 h0 : Int} {ks : List Kind} {T U : List Int} {k4 : Int → Int → Option (Int × Int × Int)} {s0 : Choice} (t : TabI wo ks w h a b T) (u : TabI la ks w h a b U) (hw : w ≤ 12) (hh : h ≤ 12) (ha : 1 ≤ a) (hb : 1 ≤ b) (haw : a ≤ w) (hbh : b ≤ h) (hN : 30 < N) :
    f30_24 w0 h0 ks (a : Int) (b : Int) T U k4 N s0.worth s0.labels (1 : Int) = k4 (iter (stepY (best ks) a b) b s0).worth (iter (stepY (best ks) a b) b s0).labels := by
  obtain ⟨s', h1, h2⟩ := loopE (F := fun n (s : Int × Int) i => f30_24 w0 h0 ks (a : Int) (b : Int) T U k4 n s.1 s.2 i) (k := fun s => k4 s.1 s.2) 1 b (fun i s => s = ((iter (stepY (best ks) a b) i s0).worth, (iter (stepY (best ks) a b) i s0).labels))
    (fun n s i h1 h2 hI => by
      subst hI
      have r1 : T[at13 a i]? = some (best ks a i).worth := t.done a i ha h1 haw (by omega) (.inr ⟨rfl, h2⟩)
      have r2 : T[at13 a (b - i)]? = some (best ks a (b - i)).worth := t.done a (b - i) ha (by omega) haw (by omega) (.inr ⟨rfl, by omega⟩)
      have q1 : U[at13 a i]? = some (best ks a i).labels := u.done a i ha h1 haw (by omega) (.inr ⟨rfl, h2⟩)
      have q2 : U[at13 a (b - i)]? = some (best ks a (b - i)).labels := u.done a (b - i) ha (by omega) haw (by omega) (.inr ⟨rfl, by omega⟩)
      have hsub : W ((b : Int) - (i : Int)) = ((b - i : Nat) : Int) := by rw [W_in (by omega) (by omega)]; omega
      refine ⟨_, rfl, ?_⟩
      rw [iter_succ _ _ _ h1]
      generalize iter (stepY (best ks) a b) i s0 = s
      simp only [f30_24, f30_24b, decide_eq_true (show (i : Int) < (b : Int) by omega), cond_true, hsub, chk_ok (α := Unit) (show i ≤ 12 by omega), chk_ok (α := Unit) (show a ≤ 12 by omega), chk_ok (α := Unit) (show b - i ≤ 12 by omega), toN]
      rw [ixN_eq (m := a * 13 + i) r1]
      simp only [Option.bind_some]
      rw [ixN_eq (m := a * 13 + (b - i)) r2]
      simp only [Option.bind_some]
      rw [ixN_eq (m := a * 13 + i) q1]
      simp only [Option.bind_some]
      rw [ixN_eq (m := a * 13 + (b - i)) q2]
      simp only [Option.bind_some, W_nat (show i < 9223372036854775807 by omega)]
      refine Eq.trans (better_bif (z := joinC (best ks a i) (best ks a (b - i)) ⟨false, (i : Int)⟩) (s := s)) ?_
      unfold stepY tryC
      cases betterB (joinC (best ks a i) (best ks a (b - i)) ⟨false, (i : Int)⟩) s <;> rfl)
    (fun n s => by simp [f30_24, f30_24b]) N (s0.worth, s0.labels) rfl hb (by omega)
  rw [h1] at h2; exact h2
theorem f30_tab {N w h : Nat} {ks : List Kind} {k0 : List Int → List Int → Option (Int × Int × Int)} (hw : w ≤ 12) (hh : h ≤ 12) (h1w : 1 ≤ w) (h1h : 1 ≤ h) (hk : ks.length ≤ 30) (hok : kindsS ks = 0) (hN : 30 < N) :
    ∃ s : List Int × List Int, (TabI wo ks w h (w + 1) 1 s.1 ∧ TabI la ks w h (w + 1) 1 s.2) ∧ f30_8 (w : Int) (h : Int) ks N k0 N (1 : Int) (List.replicate 169 (0 : Int)) (List.replicate 169 (0 : Int)) = k0 s.1 s.2 := by
  refine loopE (F := fun n (s : List Int × List Int) i => f30_8 (w : Int) (h : Int) ks N k0 n i s.1 s.2) (k := fun s => k0 s.1 s.2) 1 (w + 1) (fun a s => TabI wo ks w h a 1 s.1 ∧ TabI la ks w h a 1 s.2) (fun n s a h1 h2 hI => ?_) (fun n s => by simp only [f30_8, f30_8b, decide_eq_false (show ¬ ((w + 1 : Nat) : Int) ≤ (w : Int) by omega), cond_false]) N (List.replicate 169 0, List.replicate 169 0) ⟨TabI.init, TabI.init⟩ (by omega) (by omega)
  obtain ⟨s', i1, i2⟩ := loopE (F := fun m (s : List Int × List Int) i => f30_11 (w : Int) (h : Int) ks N (a : Int) (f30_c9 (w : Int) (h : Int) ks (a : Int) (f30_8 (w : Int) (h : Int) ks N k0 n)) m i s.1 s.2) (k := fun s => f30_c9 (w : Int) (h : Int) ks (a : Int) (f30_8 (w : Int) (h : Int) ks N k0 n) s.1 s.2) 1 (h + 1) (fun b s => TabI wo ks w h a b s.1 ∧ TabI la ks w h a b s.2)
    (fun m s b g1 g2 hI => by
      obtain ⟨t, u⟩ := hI
      have hlt : at13 a b < s.1.length := by rw [t.len]; unfold at13; omega
      have hlu : at13 a b < s.2.length := by rw [u.len]; unfold at13; omega
      refine ⟨(s.1.set (at13 a b) (wo (best ks a b)), s.2.set (at13 a b) (la (best ks a b))), ⟨t.set hw hh h1 g1 (by omega) (by omega), u.set hw hh h1 g1 (by omega) (by omega)⟩, ?_⟩
      simp only [f30_11, f30_11b, decide_eq_true (show (b : Int) ≤ (h : Int) by omega), cond_true, joinK, f51_eq hk hN, Option.bind_some]
      have go : ∀ s0 : Choice, f30_c17 (w : Int) (h : Int) ks N (a : Int) (b : Int) s.1 s.2 (f30_c12 (w : Int) (h : Int) ks (a : Int) (b : Int) (f30_11 (w : Int) (h : Int) ks N (a : Int) (f30_c9 (w : Int) (h : Int) ks (a : Int) (f30_8 (w : Int) (h : Int) ks N k0 n)) m)) s0.worth s0.labels = f30_11 (w : Int) (h : Int) ks N (a : Int) (f30_c9 (w : Int) (h : Int) ks (a : Int) (f30_8 (w : Int) (h : Int) ks N k0 n)) m ((b + 1 : Nat) : Int) (s.1.set (at13 a b) (iter (stepY (best ks) a b) b (iter (stepX (best ks) a b) a s0)).worth) (s.2.set (at13 a b) (iter (stepY (best ks) a b) b (iter (stepX (best ks) a b) a s0)).labels) := by
        intro s0
        simp only [f30_c17, joinK]
        rw [f30_row18 t u hw hh h1 g1 (by omega) (by omega) hN]
        simp only [f30_c23, joinK]
        rw [f30_row24 t u hw hh h1 g1 (by omega) (by omega) hN]
        simp only [f30_c29, chk_ok (α := Unit) (show a ≤ 12 by omega), chk_ok (α := Unit) (show b ≤ 12 by omega), toN]
        rw [setN_eq (m := a * 13 + b) hlt]
        simp only [Option.bind_some]
        rw [setN_eq (m := a * 13 + b) hlu]
        simp only [Option.bind_some, f30_c12, W_nat (show b < 9223372036854775807 by omega)]
        rfl
      rw [best_eq h1 g1]
      unfold cellC startC
      have hb0 := bestV_neg (w := (a : Int)) (h := (b : Int)) ks (kindsS_ok hok)
      have hle := bestV_le (w := (a : Int)) (h := (b : Int)) ks 0
      have hno : hasV (a : Int) (b : Int) ks = false → bestV (a : Int) (b : Int) ks 0 = 0 := by
        intro hv
        have : ∀ (l : List Kind) (o : Int), (l.any fun k => decide (k.W = (a : Int)) && decide (k.H = (b : Int))) = false → bestV (a : Int) (b : Int) l o = o := by
          intro l
          induction l with
          | nil => intro o _; rfl
          | cons k r ih =>
            intro o hh
            rw [List.any_cons, Bool.or_eq_false_iff] at hh
            simp only [bestV]
            rw [if_neg (by simpa using hh.1)]
            exact ih o hh.2
        exact this ks 0 hv
      have hpos : decide (0 < bestV (a : Int) (b : Int) ks (-1)) = decide (0 < bestV (a : Int) (b : Int) ks 0) := by
        rw [hb0]
        cases hv : hasV (a : Int) (b : Int) ks with
        | true => rfl
        | false => rw [hno hv]; rfl
      rw [hpos]
      cases hd : decide (0 < bestV (a : Int) (b : Int) ks 0) with
      | true =>
        rw [cond_true, cond_true]
        have heq : bestV (a : Int) (b : Int) ks (-1) = bestV (a : Int) (b : Int) ks 0 := by
          rw [hb0]
          cases hv : hasV (a : Int) (b : Int) ks with
          | true => rfl
          | false => rw [hno hv] at hd; cases hd
        rw [heq]
        exact go ⟨_, 1, true, ⟨false, 0⟩⟩
      | false =>
        rw [cond_false, cond_false]
        exact go zeroC)
    (fun m s => by simp only [f30_11, f30_11b, decide_eq_false (show ¬ ((h + 1 : Nat) : Int) ≤ (h : Int) by omega), cond_false]) N s hI (by omega) (by omega)
  refine ⟨s', ⟨i1.1.row, i1.2.row⟩, ?_⟩
  simp only [f30_8, f30_8b, decide_eq_true (show (a : Int) ≤ (w : Int) by omega), cond_true, joinK]
  refine Eq.trans i2 ?_
  simp only [f30_c9, W_nat (show a < 9223372036854775807 by omega)]
def mostS (w h : Int) (ks : List Kind) : Int × Int × Int := if askedS w h ks = 0 then ((best ks w.toNat h.toNat).worth, (best ks w.toNat h.toNat).labels, 0) else (0, 0, askedS w h ks)
theorem f30_eq {N : Nat} {w h : Int} {ks : List Kind} (hk : ks.length ≤ 30) (hN : 30 < N) : f30 N w h ks = some (mostS w h ks) := by
  unfold f30 mostS
  simp only [f56_eq, Option.bind_some, f50_eq hk hN]
  by_cases c1 : 1 ≤ w ∧ w ≤ 12
  · by_cases c2 : 1 ≤ h ∧ h ≤ 12
    · have ha : askedS w h ks = kindsS ks := by unfold askedS; rw [if_neg (Classical.not_not.2 c1), if_neg (Classical.not_not.2 c2)]
      rw [ha]
      simp only [c1, c2, decide_true, Bool.and_self, Bool.not_true, cond_false]
      by_cases c : kindsS ks = 0
      · obtain ⟨a, rfl⟩ : ∃ a : Nat, w = (a : Int) := ⟨w.toNat, by omega⟩
        obtain ⟨b, rfl⟩ : ∃ b : Nat, h = (b : Int) := ⟨h.toNat, by omega⟩
        obtain ⟨s, ⟨t1, t2⟩, t3⟩ := f30_tab (N := N) (w := a) (h := b) (ks := ks) (k0 := f30_c30 (a : Int) (b : Int)) (by omega) (by omega) (by omega) (by omega) hk c hN
        rw [if_pos c, decide_eq_false (Classical.not_not.2 c), cond_false]
        simp only [joinK]
        refine Eq.trans t3 ?_
        simp only [f30_c30, chk_ok (α := Unit) (show a ≤ 12 by omega), chk_ok (α := Unit) (show b ≤ 12 by omega), toN]
        rw [ixN_eq (m := a * 13 + b) (t1.done a b (by omega) (by omega) (Nat.le_refl _) (Nat.le_refl _) (.inl (by omega)))]
        simp only [Option.bind_some]
        rw [ixN_eq (m := a * 13 + b) (t2.done a b (by omega) (by omega) (Nat.le_refl _) (Nat.le_refl _) (.inl (by omega)))]
        rfl
      · rw [if_neg c, decide_eq_true c]; rfl
    · have : (decide (1 ≤ h) && decide (h ≤ 12)) = false := by simpa using c2
      have ha : askedS w h ks = 3 := by unfold askedS; rw [if_neg (Classical.not_not.2 c1), if_pos c2]
      rw [ha]
      simp [c1, this]
  · have : (decide (1 ≤ w) && decide (w ≤ 12)) = false := by simpa using c1
    have ha : askedS w h ks = 3 := by unfold askedS; rw [if_pos c1]
    rw [ha]
    simp [this]
end Go.Vc
/-
  PLAIN LAWS OF CUT, 11: the layout that is returned.
-/
namespace Go.Vc
set_option linter.unusedVariables false
set_option linter.unnecessarySimpa false
set_option linter.unusedSimpArgs false
set_option linter.unusedSimpArgs false

/-! What the best choices are. -/
structure Bd (a b : Nat) (c : Choice) : Prop where
  w0 : 0 ≤ c.worth
  w1 : c.worth ≤ ((1000 * (a * b) : Nat) : Int)
  l0 : 0 ≤ c.labels
  l1 : c.labels ≤ ((a * b : Nat) : Int)
inductive How (ks : List Kind) (a b : Nat) (c : Choice) : Prop where
  | sold (h : c.sold = true) (h1 : c.worth = bestV a b ks 0) (h2 : 0 < c.worth) (h3 : c.labels = 1) : How ks a b c
  | up (h : c.sold = false) (i : Nat) (h1 : 1 ≤ i) (h2 : i < a) (h3 : c.cut = ⟨true, (i : Int)⟩) (h4 : c.worth = (best ks i b).worth + (best ks (a - i) b).worth) (h5 : c.labels = (best ks i b).labels + (best ks (a - i) b).labels) : How ks a b c
  | lie (h : c.sold = false) (i : Nat) (h1 : 1 ≤ i) (h2 : i < b) (h3 : c.cut = ⟨false, (i : Int)⟩) (h4 : c.worth = (best ks a i).worth + (best ks a (b - i)).worth) (h5 : c.labels = (best ks a i).labels + (best ks a (b - i)).labels) : How ks a b c
  | none (h : c = zeroC) : How ks a b c
theorem iter_inv {f : Nat → Choice → Choice} {P : Choice → Prop} : ∀ (m : Nat) (s : Choice), P s → (∀ i s, 1 ≤ i → i < m → P s → P (f i s)) → P (iter f m s)
  | 0, _, h, _ => h
  | 1, _, h, _ => h
  | m + 2, s, h, hf => by
    rw [iter_succ f (m + 1) s (by omega)]
    exact hf (m + 1) _ (by omega) (by omega) (iter_inv (m + 1) s h fun i s h1 h2 => hf i s h1 (by omega))
theorem area {a b : Nat} (ha : a ≤ 12) (hb : b ≤ 12) : a * b ≤ 144 := Nat.mul_le_mul ha hb
theorem best_props {ks : List Kind} (hok : kindsS ks = 0) : ∀ (n a b : Nat), a + b ≤ n → 1 ≤ a → 1 ≤ b → a ≤ 12 → b ≤ 12 → Bd a b (best ks a b) ∧ How ks a b (best ks a b) := by
  intro n
  induction n with
  | zero => intro a b h ha; omega
  | succ n ih =>
    intro a b hn ha hb ha2 hb2
    have har := area ha2 hb2
    have hpos : 1 ≤ a * b := Nat.mul_pos ha hb
    rw [best_eq ha hb]
    unfold cellC
    have P0 : Bd a b (startC ks a b) ∧ How ks a b (startC ks a b) := by
      unfold startC
      have h1 := bestV_ub (w := (a : Int)) (h := (b : Int)) ks 0 (kindsS_ok hok) (by omega)
      have h0 := bestV_le (w := (a : Int)) (h := (b : Int)) ks 0
      cases hd : decide (0 < bestV (a : Int) (b : Int) ks 0) with
      | true =>
        rw [decide_eq_true_iff] at hd
        exact ⟨⟨by show 0 ≤ bestV _ _ _ _; omega, by show bestV _ _ _ _ ≤ _; omega, by show (0 : Int) ≤ 1; omega, by show (1 : Int) ≤ _; omega⟩, .sold rfl rfl hd rfl⟩
      | false => exact ⟨⟨by show (0 : Int) ≤ 0; omega, by show (0 : Int) ≤ _; omega, by show (0 : Int) ≤ 0; omega, by show (0 : Int) ≤ _; omega⟩, .none rfl⟩
    have P1 : Bd a b (iter (stepX (best ks) a b) a (startC ks a b)) ∧ How ks a b (iter (stepX (best ks) a b) a (startC ks a b)) := by
      refine iter_inv (P := fun s => Bd a b s ∧ How ks a b s) a _ P0 fun i s h1 h2 hs => ?_
      unfold stepX tryC
      cases betterB (joinC (best ks i b) (best ks (a - i) b) ⟨true, (i : Int)⟩) s with
      | false => exact hs
      | true =>
        obtain ⟨x, _⟩ := ih i b (by omega) h1 hb (by omega) hb2
        obtain ⟨y, _⟩ := ih (a - i) b (by omega) (by omega) hb (by omega) hb2
        have e : i * b + (a - i) * b = a * b := by rw [← Nat.add_mul]; congr 1; omega
        have x1 := x.w0; have x2 := x.w1; have x3 := x.l0; have x4 := x.l1
        have y1 := y.w0; have y2 := y.w1; have y3 := y.l0; have y4 := y.l1
        have e1 : W ((best ks i b).worth + (best ks (a - i) b).worth) = (best ks i b).worth + (best ks (a - i) b).worth := W_in (by omega) (by omega)
        have e2 : W ((best ks i b).labels + (best ks (a - i) b).labels) = (best ks i b).labels + (best ks (a - i) b).labels := W_in (by omega) (by omega)
        rw [cond_true]
        refine ⟨⟨by show 0 ≤ W _; omega, by show W _ ≤ _; omega, by show 0 ≤ W _; omega, by show W _ ≤ _; omega⟩, .up rfl i h1 h2 rfl e1 e2⟩
    refine iter_inv (P := fun s => Bd a b s ∧ How ks a b s) b _ P1 fun i s h1 h2 hs => ?_
    unfold stepY tryC
    cases betterB (joinC (best ks a i) (best ks a (b - i)) ⟨false, (i : Int)⟩) s with
    | false => exact hs
    | true =>
      obtain ⟨x, _⟩ := ih a i (by omega) ha h1 ha2 (by omega)
      obtain ⟨y, _⟩ := ih a (b - i) (by omega) ha (by omega) ha2 (by omega)
      have e : a * i + a * (b - i) = a * b := by rw [← Nat.mul_add]; congr 1; omega
      have x1 := x.w0; have x2 := x.w1; have x3 := x.l0; have x4 := x.l1
      have y1 := y.w0; have y2 := y.w1; have y3 := y.l0; have y4 := y.l1
      have e1 : W ((best ks a i).worth + (best ks a (b - i)).worth) = (best ks a i).worth + (best ks a (b - i)).worth := W_in (by omega) (by omega)
      have e2 : W ((best ks a i).labels + (best ks a (b - i)).labels) = (best ks a i).labels + (best ks a (b - i)).labels := W_in (by omega) (by omega)
      rw [cond_true]
      refine ⟨⟨by show 0 ≤ W _; omega, by show W _ ≤ _; omega, by show 0 ≤ W _; omega, by show W _ ≤ _; omega⟩, .lie rfl i h1 h2 rfl e1 e2⟩

/-! The layout. -/
def layR (ks : List Kind) : Nat → Label → List Label
  | 0, _ => []
  | k + 1, p => bif (best ks p.W.toNat p.H.toNat).sold then [p] else
    bif (best ks p.W.toNat p.H.toNat).cut.Up then layR ks k ⟨p.X, p.Y, (best ks p.W.toNat p.H.toNat).cut.At, p.H⟩ ++ layR ks k ⟨p.X + (best ks p.W.toNat p.H.toNat).cut.At, p.Y, p.W - (best ks p.W.toNat p.H.toNat).cut.At, p.H⟩ else
    bif decide (0 < (best ks p.W.toNat p.H.toNat).cut.At) then layR ks k ⟨p.X, p.Y, p.W, (best ks p.W.toNat p.H.toNat).cut.At⟩ ++ layR ks k ⟨p.X, p.Y + (best ks p.W.toNat p.H.toNat).cut.At, p.W, p.H - (best ks p.W.toNat p.H.toNat).cut.At⟩ else []
def Apart2 (x y : Label) : Prop := x.X + x.W ≤ y.X ∨ y.X + y.W ≤ x.X ∨ x.Y + x.H ≤ y.Y ∨ y.Y + y.H ≤ x.Y
theorem bestV_has {w h : Int} : ∀ (l : List Kind) (o : Int), o < bestV w h l o → hasV w h l = true
  | [], o, h0 => by simp [bestV] at h0
  | k :: r, o, h0 => by
    simp only [bestV, hasV, List.any_cons] at *
    by_cases c : k.W = w ∧ k.H = h
    · simp [c]
    · rw [if_neg c] at h0
      have := bestV_has r o h0
      unfold hasV at this
      rw [this, Bool.or_true]
theorem worthL_append {ks : List Kind} : ∀ (l r : List Label) (s t : Int), worthL ks l s = some t → worthL ks (l ++ r) s = worthL ks r t
  | [], r, s, t, h => by cases h; rfl
  | x :: l, r, s, t, h => by
    simp only [List.cons_append, worthL] at *
    cases hv : hasV x.W x.H ks with
    | false => rw [hv] at h; cases h
    | true => rw [hv, cond_true] at h; rw [cond_true]; exact worthL_append l r _ t h
theorem fits_trans {p q x : Label} (h : Fits q x) (hx : p.X ≤ q.X) (hy : p.Y ≤ q.Y) (hw : q.X + q.W ≤ p.X + p.W) (hh : q.Y + q.H ≤ p.Y + p.H) : Fits p x := by
  have t1 := h.w; have t2 := h.h; have t3 := h.x0; have t4 := h.y0; have t5 := h.x1; have t6 := h.y1
  exact ⟨t1, t2, by omega, by omega, by omega, by omega⟩
structure LayOK (ks : List Kind) (p : Label) (c : Choice) (l : List Label) : Prop where
  len : (l.length : Int) = c.labels
  worth : ∀ s, 0 ≤ s → s + c.worth ≤ 1000000 → worthL ks l s = some (s + c.worth)
  fits : ∀ x, x ∈ l → Fits p x
  sep : Sep l
  apart : l.Pairwise Apart2
theorem sep_app {l r : List Label} (c : Cut) (h1 : ∀ x, x ∈ l → before c x = true) (h2 : ∀ x, x ∈ r → before c x = false ∧ behind c x = true) (hl : Sep l) (hr : Sep r) : Sep (l ++ r) := by
  refine .cut c (fun x hx => ?_) ?_ ?_
  · rcases List.mem_append.1 hx with hx | hx
    · rw [h1 x hx]; rfl
    · rw [(h2 x hx).2, Bool.or_true]
  · rw [List.filter_append, List.filter_eq_self.2 h1, List.filter_eq_nil_iff.2 (fun x hx => by rw [(h2 x hx).1]; simp), List.append_nil]; exact hl
  · rw [List.filter_append, List.filter_eq_nil_iff.2 (fun x hx => by rw [h1 x hx]; simp), List.filter_eq_self.2 (fun x hx => by rw [(h2 x hx).1]; rfl), List.nil_append]; exact hr
theorem lay_ok {ks : List Kind} (hok : kindsS ks = 0) : ∀ (k a b : Nat) (p : Label), a + b ≤ k → 1 ≤ a → 1 ≤ b → a ≤ 12 → b ≤ 12 → p.W = (a : Int) → p.H = (b : Int) → 0 ≤ p.X → 0 ≤ p.Y → LayOK ks p (best ks a b) (layR ks k p) := by
  intro k
  induction k with
  | zero => intro a b p h ha; omega
  | succ k ih =>
    intro a b p hk ha hb ha2 hb2 hw hh hx hy
    obtain ⟨bd, how⟩ := best_props hok (a + b) a b (Nat.le_refl _) ha hb ha2 hb2
    have har := area ha2 hb2
    have eW : p.W.toNat = a := by omega
    have eH : p.H.toNat = b := by omega
    simp only [layR, eW, eH]
    cases how with
    | sold h h1 h2 h3 =>
      rw [h, cond_true]
      refine ⟨by rw [h3]; rfl, fun s h0 h00 => ?_, fun x hx' => ?_, .few (by simp), by simp⟩
      · simp only [worthL, hw, hh]
        rw [bestV_has ks 0 (by rw [← h1]; exact h2), cond_true, h1, W_in (by rw [← h1]; have := bd.w0; omega) (by rw [← h1]; omega)]
      · simp at hx'; subst hx'
        exact ⟨by omega, by omega, Int.le_refl _, Int.le_refl _, Int.le_refl _, Int.le_refl _⟩
    | up h i h1 h2 h3 h4 h5 =>
      rw [h, cond_false, h3]
      simp only [cond_true]
      have A := ih i b ⟨p.X, p.Y, (i : Int), p.H⟩ (by omega) h1 hb (by omega) hb2 rfl hh hx hy
      have B := ih (a - i) b ⟨p.X + (i : Int), p.Y, p.W - (i : Int), p.H⟩ (by omega) (by omega) hb (by omega) hb2 (by show p.W - (i : Int) = _; omega) hh (by show 0 ≤ p.X + (i : Int); omega) hy
      obtain ⟨bx, _⟩ := best_props hok (i + b) i b (Nat.le_refl _) h1 hb (by omega) hb2
      have bx0 := bx.w0; have bx1 := bx.w1
      have hle : i * b ≤ 144 := area (by omega) hb2
      have fA : ∀ x, x ∈ layR ks k ⟨p.X, p.Y, (i : Int), p.H⟩ → Fits p x ∧ x.X + x.W ≤ p.X + (i : Int) := fun x hx' => by
        have f := A.fits x hx'
        exact ⟨fits_trans f (Int.le_refl _) (Int.le_refl _) (by show p.X + (i : Int) ≤ _; omega) (Int.le_refl _), f.x1⟩
      have fB : ∀ x, x ∈ layR ks k ⟨p.X + (i : Int), p.Y, p.W - (i : Int), p.H⟩ → Fits p x ∧ p.X + (i : Int) ≤ x.X := fun x hx' => by
        have f := B.fits x hx'
        exact ⟨fits_trans f (by show p.X ≤ p.X + (i : Int); omega) (Int.le_refl _) (by show p.X + (i : Int) + (p.W - (i : Int)) ≤ _; omega) (Int.le_refl _), f.x0⟩
      refine ⟨by rw [List.length_append, h5, ← A.len, ← B.len]; omega, fun s h0 h00 => ?_, fun x hx' => ?_, ?_, ?_⟩
      · obtain ⟨bx, _⟩ := best_props hok (i + b) i b (Nat.le_refl _) h1 hb (by omega) hb2
        obtain ⟨by', _⟩ := best_props hok ((a - i) + b) (a - i) b (Nat.le_refl _) (by omega) hb (by omega) hb2
        have bx0 := bx.w0; have by0 := by'.w0
        rw [h4] at h00 ⊢
        rw [worthL_append _ _ _ _ (A.worth s h0 (by omega)), B.worth _ (by omega) (by omega)]
        congr 1; omega
      · rcases List.mem_append.1 hx' with hx' | hx'
        · exact (fA x hx').1
        · exact (fB x hx').1
      · refine sep_app ⟨true, p.X + (i : Int)⟩ (fun x hx' => before_iff.2 (fA x hx').2) (fun x hx' => ⟨before_not.2 ?_, behind_iff.2 (fB x hx').2⟩) A.sep B.sep
        have := (fB x hx').1.w; have h2 := (fB x hx').2
        show ¬ x.X + x.W ≤ p.X + (i : Int)
        omega
      · rw [List.pairwise_append]
        exact ⟨A.apart, B.apart, fun x hx' y hy' => .inl (by have := (fA x hx').2; have := (fB y hy').2; omega)⟩
    | lie h i h1 h2 h3 h4 h5 =>
      rw [h, cond_false, h3]
      simp only [cond_false, decide_eq_true (show 0 < (i : Int) by omega), cond_true]
      have A := ih a i ⟨p.X, p.Y, p.W, (i : Int)⟩ (by omega) ha h1 ha2 (by omega) hw rfl hx hy
      have B := ih a (b - i) ⟨p.X, p.Y + (i : Int), p.W, p.H - (i : Int)⟩ (by omega) ha (by omega) ha2 (by omega) hw (by show p.H - (i : Int) = _; omega) hx (by show 0 ≤ p.Y + (i : Int); omega)
      have fA : ∀ x, x ∈ layR ks k ⟨p.X, p.Y, p.W, (i : Int)⟩ → Fits p x ∧ x.Y + x.H ≤ p.Y + (i : Int) := fun x hx' => by
        have f := A.fits x hx'
        exact ⟨fits_trans f (Int.le_refl _) (Int.le_refl _) (Int.le_refl _) (by show p.Y + (i : Int) ≤ _; omega), f.y1⟩
      have fB : ∀ x, x ∈ layR ks k ⟨p.X, p.Y + (i : Int), p.W, p.H - (i : Int)⟩ → Fits p x ∧ p.Y + (i : Int) ≤ x.Y := fun x hx' => by
        have f := B.fits x hx'
        exact ⟨fits_trans f (Int.le_refl _) (by show p.Y ≤ p.Y + (i : Int); omega) (Int.le_refl _) (by show p.Y + (i : Int) + (p.H - (i : Int)) ≤ _; omega), f.y0⟩
      refine ⟨by rw [List.length_append, h5, ← A.len, ← B.len]; omega, fun s h0 h00 => ?_, fun x hx' => ?_, ?_, ?_⟩
      · obtain ⟨bx, _⟩ := best_props hok (a + i) a i (Nat.le_refl _) ha h1 ha2 (by omega)
        obtain ⟨by', _⟩ := best_props hok (a + (b - i)) a (b - i) (Nat.le_refl _) ha (by omega) ha2 (by omega)
        have bx0 := bx.w0; have by0 := by'.w0
        rw [h4] at h00 ⊢
        rw [worthL_append _ _ _ _ (A.worth s h0 (by omega)), B.worth _ (by omega) (by omega)]
        congr 1; omega
      · rcases List.mem_append.1 hx' with hx' | hx'
        · exact (fA x hx').1
        · exact (fB x hx').1
      · refine sep_app ⟨false, p.Y + (i : Int)⟩ (fun x hx' => before_iff.2 (fA x hx').2) (fun x hx' => ⟨before_not.2 ?_, behind_iff.2 (fB x hx').2⟩) A.sep B.sep
        have := (fB x hx').1.h; have h2 := (fB x hx').2
        show ¬ x.Y + x.H ≤ p.Y + (i : Int)
        omega
      · rw [List.pairwise_append]
        exact ⟨A.apart, B.apart, fun x hx' y hy' => .inr (.inr (.inl (by have := (fA x hx').2; have := (fB y hy').2; omega)))⟩
    | none h =>
      rw [h]
      exact ⟨rfl, fun s _ _ => by show some s = some (s + 0); rw [Int.add_zero], fun x hx => (by cases hx), .few (Nat.zero_le _), List.Pairwise.nil⟩

/-! The program's put. -/
theorem f68_eq {ks : List Kind} (hok : kindsS ks = 0) {w h : Nat} (hw12 : w ≤ 12) (hh12 : h ≤ 12) {T : List Choice} (t : Tab ks w h (w + 1) 1 T) (s1 s2 : Int) : ∀ (k a b : Nat) (p : Label) (n : Nat) (L : List Label), a + b ≤ k → 1 ≤ a → 1 ≤ b → a ≤ w → b ≤ h → p.W = (a : Int) → p.H = (b : Int) → 0 ≤ p.X → 0 ≤ p.Y → p.X + p.W ≤ 12 → p.Y + p.H ≤ 12 → k ≤ n → L.length + (layR ks k p).length ≤ 1000 →
    f68 n p s1 s2 T L = some (L ++ layR ks k p) := by
  intro k
  induction k with
  | zero => intro a b p n L h ha; omega
  | succ k ih =>
    intro a b p n L hk ha hb ha2 hb2 hw hh hx hy hx12 hy12 hn hL
    obtain ⟨n, rfl⟩ : ∃ m, n = m + 1 := ⟨n - 1, by omega⟩
    obtain ⟨bd, how⟩ := best_props hok (a + b) a b (Nat.le_refl _) ha hb (by omega) (by omega)
    have eW : p.W.toNat = a := by omega
    have eH : p.H.toNat = b := by omega
    have hget := t.done a b ha hb ha2 hb2 (.inl (by omega))
    simp only [layR, eW, eH] at hL ⊢
    simp only [f68, f68b, hw, hh, chk_ok (α := Unit) (show a ≤ 12 by omega), chk_ok (α := Unit) (show b ≤ 12 by omega), toN]
    rw [ixN_eq (m := a * 13 + b) hget]
    simp only [Option.bind_some]
    cases how with
    | sold h h1 h2 h3 =>
      rw [h] at hL ⊢
      rw [cond_true] at hL ⊢
      rw [app_ok (by simp at hL ⊢; omega) (by simp at hL ⊢; omega)]
      rfl
    | up h i h1 h2 h3 h4 h5 =>
      rw [h, h3] at hL ⊢
      simp only [cond_true, cond_false] at hL ⊢
      have hq : W ((a : Int) - (i : Int)) = p.W - (i : Int) := by rw [W_in (by omega) (by omega)]; omega
      rw [hq, ← hh]
      rw [List.length_append] at hL
      rw [ih i b ⟨p.X, p.Y, (i : Int), p.H⟩ n L (by omega) h1 hb (by omega) hb2 rfl hh hx hy (by show p.X + (i : Int) ≤ 12; omega) hy12 (by omega) (by omega)]
      simp only [Option.bind_some]
      rw [W_in (n := p.X + (i : Int)) (by omega) (by omega)]
      rw [ih (a - i) b ⟨p.X + (i : Int), p.Y, p.W - (i : Int), p.H⟩ n _ (by omega) (by omega) hb (by omega) hb2 (by show p.W - (i : Int) = _; omega) hh (by show 0 ≤ p.X + (i : Int); omega) hy (by show p.X + (i : Int) + (p.W - (i : Int)) ≤ 12; omega) hy12 (by omega) (by rw [List.length_append]; omega)]
      simp only [Option.bind_some, List.append_assoc]
      rw [hw]
    | lie h i h1 h2 h3 h4 h5 =>
      rw [h, h3] at hL ⊢
      simp only [cond_true, cond_false, decide_eq_true (show 0 < (i : Int) by omega)] at hL ⊢
      have hq : W ((b : Int) - (i : Int)) = p.H - (i : Int) := by rw [W_in (by omega) (by omega)]; omega
      rw [hq, ← hw]
      rw [List.length_append] at hL
      rw [ih a i ⟨p.X, p.Y, p.W, (i : Int)⟩ n L (by omega) ha h1 ha2 (by omega) hw rfl hx hy hx12 (by show p.Y + (i : Int) ≤ 12; omega) (by omega) (by omega)]
      simp only [Option.bind_some]
      rw [W_in (n := p.Y + (i : Int)) (by omega) (by omega)]
      rw [ih a (b - i) ⟨p.X, p.Y + (i : Int), p.W, p.H - (i : Int)⟩ n _ (by omega) ha (by omega) ha2 (by omega) hw (by show p.H - (i : Int) = _; omega) hx (by show 0 ≤ p.Y + (i : Int); omega) hx12 (by show p.Y + (i : Int) + (p.H - (i : Int)) ≤ 12; omega) (by omega) (by rw [List.length_append]; omega)]
      simp only [Option.bind_some, List.append_assoc]
      rw [hh]
    | none h =>
      rw [h]
      show some L = some (L ++ [])
      rw [List.append_nil]
def layS (w h : Int) (ks : List Kind) : Layout × Int := if askedS w h ks = 0 then (if 10 < (best ks w.toNat h.toNat).labels then (⟨0, 0, []⟩, 16) else (⟨w, h, layR ks 24 ⟨0, 0, w, h⟩⟩, 0)) else (⟨0, 0, []⟩, askedS w h ks)
theorem f31_eq {N : Nat} {w h : Int} {ks : List Kind} (hk : ks.length ≤ 30) (hN : 30 < N) : f31 N w h ks = some (layS w h ks) := by
  unfold f31 layS
  simp only [f66_eq hk hN, Option.bind_some]
  by_cases c : askedS w h ks = 0
  · obtain ⟨h1, h2, hok⟩ := asked_ok c
    obtain ⟨a, rfl⟩ : ∃ a : Nat, w = (a : Int) := ⟨w.toNat, by omega⟩
    obtain ⟨b, rfl⟩ : ∃ b : Nat, h = (b : Int) := ⟨h.toNat, by omega⟩
    obtain ⟨T, t1, t2⟩ := f31_i403_tab (N := N) (w := a) (h := b) (ks := ks) (k0 := f31_i403_c21 (a : Int) (b : Int) N) (by omega) (by omega) (by omega) (by omega) hk hN
    rw [if_pos c, decide_eq_false (Classical.not_not.2 c), cond_false]
    simp only [joinK]
    refine Eq.trans t2 ?_
    simp only [f31_i403_c21, chk_ok (α := Unit) (show a ≤ 12 by omega), chk_ok (α := Unit) (show b ≤ 12 by omega), toN]
    rw [ixN_eq (m := a * 13 + b) (t1.done a b (by omega) (by omega) (Nat.le_refl _) (Nat.le_refl _) (.inl (by omega)))]
    simp only [Option.bind_some, joinK, f31_c10]
    by_cases c10 : 10 < (best ks a b).labels
    · rw [if_pos c10, decide_eq_true c10]; rfl
    · rw [if_neg c10, decide_eq_false c10, cond_false]
      have lk := lay_ok hok 24 a b ⟨0, 0, (a : Int), (b : Int)⟩ (by omega) (by omega) (by omega) (by omega) (by omega) rfl rfl (Int.le_refl _) (Int.le_refl _)
      have hlen := lk.len
      rw [f68_eq hok (w := a) (h := b) (by omega) (by omega) t1 (a : Int) (b : Int) 24 a b ⟨0, 0, (a : Int), (b : Int)⟩ N [] (by omega) (by omega) (by omega) (Nat.le_refl _) (Nat.le_refl _) rfl rfl (Int.le_refl _) (Int.le_refl _) (by show 0 + (a : Int) ≤ 12; omega) (by show 0 + (b : Int) ≤ 12; omega) (by omega) (by simp only [List.length_nil]; omega)]
      rfl
  · rw [if_neg c, decide_eq_true c]; rfl
/-! The layout is valid. -/
theorem meets_apart {x y : Label} (hx : ∃ q, Small q ∧ Fits q x) (hy : ∃ q, Small q ∧ Fits q y) (h : Apart2 x y) : meets2 x y = false := by
  obtain ⟨q, hq, hf⟩ := hx
  have u1 := hq.x0; have u2 := hq.y0; have u3 := hq.x1; have u4 := hq.y1
  have t1 := hf.w; have t2 := hf.h; have t3 := hf.x0; have t4 := hf.y0; have t5 := hf.x1; have t6 := hf.y1
  obtain ⟨q', hq', hf'⟩ := hy
  have v1 := hq'.x0; have v2 := hq'.y0; have v3 := hq'.x1; have v4 := hq'.y1
  have w1 := hf'.w; have w2 := hf'.h; have w3 := hf'.x0; have w4 := hf'.y0; have w5 := hf'.x1; have w6 := hf'.y1
  unfold meets2
  rw [W_in (n := x.X + x.W) (by omega) (by omega), W_in (n := y.X + y.W) (by omega) (by omega), W_in (n := x.Y + x.H) (by omega) (by omega), W_in (n := y.Y + y.H) (by omega) (by omega)]
  unfold Apart2 at h
  rcases h with h | h | h | h
  · rw [decide_eq_false (show ¬ y.X < x.X + x.W by omega)]; simp
  · rw [decide_eq_false (show ¬ x.X < y.X + y.W by omega)]; simp
  · rw [decide_eq_false (show ¬ y.Y < x.Y + x.H by omega)]; simp
  · rw [decide_eq_false (show ¬ x.Y < y.Y + y.H by omega)]; simp
theorem Apart2.symm {x y : Label} (h : Apart2 x y) : Apart2 y x := by unfold Apart2 at *; omega
theorem clash_none : ∀ (l p : List Label), Laid (p ++ l) → (p ++ l).Pairwise Apart2 → clashes p l = false
  | [], _, _, _ => rfl
  | x :: r, p, hl, h => by
    simp only [clashes]
    rw [Bool.or_eq_false_iff]
    refine ⟨?_, clash_none r (p ++ [x]) (by simpa using hl) (by simpa using h)⟩
    rw [List.any_eq_false]
    intro y hy
    have := (List.pairwise_append.1 h).2.2 y hy x (by simp)
    rw [meets_apart (hl x (by simp)) (hl y (by simp [hy])) this.symm]; simp
theorem check_valid {L : Layout} (hw : 1 ≤ L.W ∧ L.W ≤ 12) (hh : 1 ≤ L.H ∧ L.H ≤ 12) (hlen : L.Labels.length ≤ 10) (hf : ∀ x, x ∈ L.Labels → Fits (sheetOf L) x) (ha : L.Labels.Pairwise Apart2) : checkS L = 0 := by
  unfold checkS
  rw [if_neg (Classical.not_not.2 hw), if_neg (Classical.not_not.2 hh), if_neg (by omega)]
  have h1 : L.Labels.findSome? (okLabel L) = none := by
    rw [List.findSome?_eq_none_iff]
    intro x hx
    have f := hf x hx
    have t1 := f.w; have t2 := f.h
    have t3 : 0 ≤ x.X := f.x0
    have t4 : 0 ≤ x.Y := f.y0
    have t5 : x.X + x.W ≤ 0 + L.W := f.x1
    have t6 : x.Y + x.H ≤ 0 + L.H := f.y1
    unfold okLabel
    rw [if_neg (by omega), if_neg (by omega), if_neg (by omega), if_neg (by omega), W_in (by omega) (by omega), W_in (by omega) (by omega), if_neg (by omega), if_neg (by omega)]
  rw [h1, clash_none L.Labels [] (fun x hx => ⟨sheetOf L, ⟨Int.le_refl _, Int.le_refl _, by show 0 + L.W ≤ 12; omega, by show 0 + L.H ≤ 12; omega, by show 0 ≤ L.W; omega, by show 0 ≤ L.H; omega⟩, hf x (by simpa using hx)⟩) (by simpa using ha)]
  rfl
theorem f5_true (w h : Int) (ks : List Kind) (hw : f13 61 = some true) : f5 61 w h ks = some true := by
  unfold f5
  by_cases c1 : 30 < (ks.length : Int)
  · simp [c1, hw]
  have hk : ks.length ≤ 30 := by omega
  simp only [c1, decide_false, cond_false, f19_eq (N := 61) hk (by omega), f29_eq hk (show 30 < 61 by omega), f30_eq hk (show 30 < 61 by omega), f31_eq hk (show 30 < 61 by omega), Option.bind_some, joinK]
  by_cases c : askedS w h ks = 0
  · obtain ⟨h1, h2, hok⟩ := asked_ok c
    obtain ⟨a, rfl⟩ : ∃ a : Nat, w = (a : Int) := ⟨w.toNat, by omega⟩
    obtain ⟨b, rfl⟩ : ∃ b : Nat, h = (b : Int) := ⟨h.toNat, by omega⟩
    have e1 : bestS (a : Int) (b : Int) ks = ((best ks a b).worth, 0) := by unfold bestS; rw [if_pos c]; rfl
    have e2 : mostS (a : Int) (b : Int) ks = ((best ks a b).worth, (best ks a b).labels, 0) := by unfold mostS; rw [if_pos c]; rfl
    rw [e1, e2]
    by_cases c10 : 10 < (best ks a b).labels
    · have e3 : layS (a : Int) (b : Int) ks = (⟨0, 0, []⟩, 16) := by unfold layS; rw [if_pos c]; exact if_pos c10
      rw [e3]
      simp [c10, f5_c11, hw]
    · have e3 : layS (a : Int) (b : Int) ks = (⟨(a : Int), (b : Int), layR ks 24 ⟨0, 0, (a : Int), (b : Int)⟩⟩, 0) := by unfold layS; rw [if_pos c]; exact if_neg c10
      rw [e3]
      obtain ⟨bd, _⟩ := best_props hok (a + b) a b (Nat.le_refl _) (by omega) (by omega) (by omega) (by omega)
      have har := area (show a ≤ 12 by omega) (show b ≤ 12 by omega)
      have b1 := bd.w1
      have lk := lay_ok hok 24 a b ⟨0, 0, (a : Int), (b : Int)⟩ (by omega) (by omega) (by omega) (by omega) (by omega) rfl rfl (Int.le_refl _) (Int.le_refl _)
      have hlen := lk.len
      generalize hl : layR ks 24 ⟨0, 0, (a : Int), (b : Int)⟩ = l at *
      have hv : checkS ⟨(a : Int), (b : Int), l⟩ = 0 := check_valid ⟨h1.1, h1.2⟩ ⟨h2.1, h2.2⟩ (by show l.length ≤ 10; omega) lk.fits lk.apart
      have hwo : worthS ⟨(a : Int), (b : Int), l⟩ ks = ((best ks a b).worth, 0) := by
        unfold worthS
        rw [if_pos hv, if_pos hok]
        show worthR (worthL ks l 0) = _
        rw [lk.worth 0 (Int.le_refl _) (by omega), Int.zero_add]; rfl
      have hpo : possS ⟨(a : Int), (b : Int), l⟩ = 0 := by
        have V := valid_of hv
        unfold possS
        rw [if_pos hv, if_pos]
        exact sep_plan _ _ _ ⟨V.small, V.fits⟩ (Nat.le_refl _) lk.sep
      have hl30 : (⟨(a : Int), (b : Int), l⟩ : Layout).Labels.length ≤ 30 := by show l.length ≤ 30; omega
      simp only [not_true_eq_false, decide_false, cond_false, decide_true, cond_true, c10, f5_c11, f14_eq (N := 61) hl30 (by omega), f18_eq hl30 hk (show 30 < 61 by omega), f23_eq hl30 (show 60 < 61 by omega), Option.bind_some, hwo, hpo, hw]
  · have e1 : bestS w h ks = (0, askedS w h ks) := by unfold bestS; rw [if_neg c]
    have e2 : mostS w h ks = (0, 0, askedS w h ks) := by unfold mostS; rw [if_neg c]
    have e3 : layS w h ks = (⟨0, 0, []⟩, askedS w h ks) := by unfold layS; rw [if_neg c]
    rw [e1, e2, e3]
    simp [c, f5_c11, hw]
end Go.Vc
namespace Go.Vc
open Go.Proofs
set_option linter.unusedVariables false
set_option linter.unnecessarySimpa false
set_option linter.unusedSimpArgs false
def f32_c17 (a0 : Page) (b111_2 : List Label) : Option (Layout) :=
 some ((Layout.mk (W ((1 : Int) + (Int.tmod a0.W (6 : Int)))) (W ((1 : Int) + (Int.tmod a0.H (6 : Int)))) b111_2))
def f32_c16 (a0 : Page) (v24 : Int) (r3 : Int → (List Label) → Option (Layout)) (b111_2' : List Label) : Option (Layout) :=
 r3 (W (v24 + (1 : Int))) (b111_2')
def f32_c14 (a0 : Page) (v24 : Int) (b111_2 : List Label) (k1 : (List Label) → Option (Layout)) (x1 : A4u8N) (v7 : Bool) : Option (Layout) :=
 bif v7 then ((app 32 b111_2 [(Label.mk (Int.tmod x1.e0 (W ((1 : Int) + (Int.tmod a0.W (6 : Int))))) (Int.tmod x1.e1 (W ((1 : Int) + (Int.tmod a0.H (6 : Int))))) (W ((1 : Int) + (Int.tmod x1.e2 (W ((W ((1 : Int) + (Int.tmod a0.W (6 : Int)))) - (Int.tmod x1.e0 (W ((1 : Int) + (Int.tmod a0.W (6 : Int)))))))))) (W ((1 : Int) + (Int.tmod x1.e3 (W ((W ((1 : Int) + (Int.tmod a0.H (6 : Int)))) - (Int.tmod x1.e1 (W ((1 : Int) + (Int.tmod a0.H (6 : Int)))))))))))]).bind fun x2 =>
 k1 x2)
 else (k1 b111_2)
def f32_10b (r10 : Bool → Int → Option (Layout)) (a0 : Page) (N : Nat) (v24 : Int) (b111_2 : List Label) (x1 : A4u8N) (k2 : Bool → Option (Layout)) (v7 : Bool) (v70 : Int) : Option (Layout) :=
 bif decide (v70 < (List.length b111_2 : Int)) then ((ix b111_2 v70).bind fun x3 =>
 bif v7 then ((f35 N (Label.mk (Int.tmod x1.e0 (W ((1 : Int) + (Int.tmod a0.W (6 : Int))))) (Int.tmod x1.e1 (W ((1 : Int) + (Int.tmod a0.H (6 : Int))))) (W ((1 : Int) + (Int.tmod x1.e2 (W ((W ((1 : Int) + (Int.tmod a0.W (6 : Int)))) - (Int.tmod x1.e0 (W ((1 : Int) + (Int.tmod a0.W (6 : Int)))))))))) (W ((1 : Int) + (Int.tmod x1.e3 (W ((W ((1 : Int) + (Int.tmod a0.H (6 : Int)))) - (Int.tmod x1.e1 (W ((1 : Int) + (Int.tmod a0.H (6 : Int))))))))))) x3).bind fun x4 =>
 r10 (!x4) (W (v70 + (1 : Int))))
 else (r10 false (W (v70 + (1 : Int)))))
 else (k2 v7)
def f32_10 (a0 : Page) (N : Nat) (v24 : Int) (b111_2 : List Label) (x1 : A4u8N) (k2 : Bool → Option (Layout)) : Nat → Bool → Int → Option (Layout)
  | 0, _, _ => none
  | n + 1, v7, v70 => f32_10b (f32_10 a0 N v24 b111_2 x1 k2 n) a0 N v24 b111_2 x1 k2 v7 v70
def f32_3b (r3 : Int → (List Label) → Option (Layout)) (a0 : Page) (N : Nat) (k0 : (List Label) → Option (Layout)) (v24 : Int) (b111_2 : List Label) : Option (Layout) :=
 bif decide (v24 < (List.length a0.Labels : Int)) then (joinK (f32_c16 a0 v24 r3) fun k1 =>
 (ix a0.Labels v24).bind fun x1 =>
 bif decide ((List.length b111_2 : Int) = (7 : Int)) then (k0 b111_2)
 else ((chk (decide ((W ((1 : Int) + (Int.tmod a0.W (6 : Int)))) ≠ 0))).bind fun _ =>
 (chk (decide ((W ((1 : Int) + (Int.tmod a0.H (6 : Int)))) ≠ 0))).bind fun _ =>
 (chk (decide ((W ((W ((1 : Int) + (Int.tmod a0.W (6 : Int)))) - (Int.tmod x1.e0 (W ((1 : Int) + (Int.tmod a0.W (6 : Int))))))) ≠ 0))).bind fun _ =>
 (chk (decide ((W ((W ((1 : Int) + (Int.tmod a0.H (6 : Int)))) - (Int.tmod x1.e1 (W ((1 : Int) + (Int.tmod a0.H (6 : Int))))))) ≠ 0))).bind fun _ =>
 joinK (f32_c14 a0 v24 b111_2 k1 x1) fun k2 =>
 f32_10 a0 N v24 b111_2 x1 k2 N true (0 : Int)))
 else (k0 b111_2)
def f32_3 (a0 : Page) (N : Nat) (k0 : (List Label) → Option (Layout)) : Nat → Int → (List Label) → Option (Layout)
  | 0, _, _ => none
  | n + 1, v24, b111_2 => f32_3b (f32_3 a0 N k0 n) a0 N k0 v24 b111_2
def f32 (N : Nat) (a0 : Page) : Option (Layout) :=
 joinK (f32_c17 a0) fun k0 =>
 f32_3 a0 N k0 N (0 : Int) []
end Go.Vc
namespace Go.Vc
open Go.Proofs
set_option linter.unusedVariables false
set_option linter.unnecessarySimpa false
set_option linter.unusedSimpArgs false
def f34b (self : (List Label) → (List Cut) → Option ((List Cut) × Bool)) (N : Nat) (a0 : List Label) (a1 : List Cut) : Option ((List Cut) × Bool) :=
 bif decide ((List.length a0 : Int) < (2 : Int)) then (some (a1, true))
 else (bif decide ((List.length a1 : Int) = (0 : Int)) then (some ([], false))
 else ((ix a1 (0 : Int)).bind fun x1 =>
 (f36 N a0 x1).bind fun x2 =>
 bif !x2.2.2 then (some ([], false))
 else ((sub a1 (1 : Int) (List.length a1 : Int)).bind fun x3 =>
 (self x2.1 x3).bind fun x4 =>
 bif !x4.2 then (some ([], false))
 else ((self x2.2.1 x4.1).bind fun x5 =>
 some (x5.1, x5.2)))))
def f34 : Nat → (List Label) → (List Cut) → Option ((List Cut) × Bool)
  | 0, _, _ => none
  | N + 1, a0, a1 => f34b (f34 N) N a0 a1
end Go.Vc
/-
  PLAIN LAWS OF CUT, 12: the examples with any fuel; split, apart, meet, followed, and pages by numbers.
-/
namespace Go.Vc
set_option linter.unusedVariables false
set_option linter.unnecessarySimpa false
set_option linter.unusedSimpArgs false
set_option linter.unusedSimpArgs false

/-! The examples. -/
def L0 : Layout := ⟨6, 4, [⟨0, 0, 2, 4⟩, ⟨2, 0, 4, 2⟩, ⟨2, 2, 2, 2⟩, ⟨4, 2, 2, 2⟩]⟩
def M0 : Layout := ⟨3, 3, [⟨0, 0, 2, 1⟩, ⟨2, 0, 1, 2⟩, ⟨1, 2, 2, 1⟩, ⟨0, 1, 1, 2⟩, ⟨1, 1, 1, 1⟩]⟩
def K1 : List Kind := [⟨2, 2, 3⟩, ⟨3, 1, 2⟩]
def K2 : List Kind := [⟨2, 2, 3⟩, ⟨2, 4, 5⟩, ⟨4, 2, 1⟩]
theorem f41_eq {n : Nat} : f41 (n + 30) = some L0 := rfl
theorem f39_eq {n : Nat} : f39 (n + 30) = some M0 := rfl
theorem f40_1 {n : Nat} : f40 (n + 30) [(2 : Int), (2 : Int), (3 : Int), (3 : Int), (1 : Int), (2 : Int)] = some K1 := rfl
theorem f40_2 {n : Nat} : f40 (n + 30) [(2 : Int), (2 : Int), (3 : Int), (2 : Int), (4 : Int), (5 : Int), (4 : Int), (2 : Int), (1 : Int)] = some K2 := rfl
theorem f43_len {N : Nat} {a b : List Cut} (ha : a.length ≤ 30) (hN : 30 < N) : f43 N a b = some (decide (a = b)) := by
  unfold f43
  by_cases hl : (a.length : Int) = (b.length : Int)
  · rw [decide_eq_false (Classical.not_not.2 hl), cond_false]
    simp only [joinK]
    have hl' : a.length = b.length := by omega
    have := loopI (F := fun n (_ : Unit) j => f43_4 a b f43_c8 n j) a.length (fun i _ => a.take i = b.take i) (fun r => r = decide (a = b))
      (fun n s i hI hi => by
        have hx : a[i]? = some a[i] := by simp [hi]
        have hy : b[i]? = some (b[i]'(by omega)) := List.getElem?_eq_getElem _
        generalize a[i] = x at hx
        generalize (b[i]'(by omega)) = y at hy
        simp only [f43_4, f43_4b, decide_eq_true (show (i : Int) < (a.length : Int) by omega), cond_true, ix_nat, hx, hy, Option.bind_some]
        by_cases hxy : x = y
        · right
          subst hxy
          refine ⟨(), ?_, ?_⟩
          · rw [List.take_add_one, List.take_add_one, hI, hx, hy]
          · simp only [beq_self_eq_true, decide_true, Bool.and_self, Bool.not_true, cond_false, W_nat (show i < 9223372036854775807 by omega)]
        · left
          refine ⟨false, ?_, ?_⟩
          · have : ((x.Up == y.Up) && (decide (x.At = y.At) && true)) = false := by
              obtain ⟨u, t⟩ := x
              obtain ⟨u', t'⟩ := y
              rw [Bool.and_true, Bool.and_eq_false_iff]
              by_cases hu : u = u'
              · right
                rw [decide_eq_false_iff_not]
                intro ht
                exact hxy (by simp only at ht; rw [hu, ht])
              · left
                simpa using hu
            rw [this]; rfl
          · symm
            rw [decide_eq_false_iff_not]
            rintro rfl
            rw [hx] at hy; cases hy; exact hxy rfl)
      (fun n s hI => by
        refine ⟨true, by simp only [f43_4, f43_4b, decide_eq_false (show ¬ (a.length : Int) < (a.length : Int) by omega), cond_false]; rfl, ?_⟩
        rw [List.take_length, hl', List.take_length] at hI
        rw [decide_eq_true hI])
      N () 0 rfl (Nat.zero_le _) (by omega)
    obtain ⟨r, h1, h2⟩ := this
    subst h2
    exact h1
  · rw [decide_eq_true hl, cond_true]
    have : a ≠ b := by rintro rfl; exact hl rfl
    rw [decide_eq_false this]
theorem lay_len {w h : Int} {ks : List Kind} : (layS w h ks).1.Labels.length ≤ 30 := by
  unfold layS
  by_cases c : askedS w h ks = 0
  · rw [if_pos c]
    by_cases c10 : 10 < (best ks w.toNat h.toNat).labels
    · rw [if_pos c10]; exact Nat.zero_le _
    · rw [if_neg c10]
      obtain ⟨h1, h2, hok⟩ := asked_ok c
      have lk := lay_ok hok 24 w.toNat h.toNat ⟨0, 0, w, h⟩ (by omega) (by omega) (by omega) (by omega) (by omega) (by show w = _; omega) (by show h = _; omega) (Int.le_refl _) (Int.le_refl _)
      have := lk.len
      show (layR ks 24 ⟨0, 0, w, h⟩).length ≤ 30
      omega
  · rw [if_neg c]; exact Nat.zero_le _
theorem plan_len {L : Layout} : (planA L).1.length ≤ 30 := by
  unfold planA
  by_cases c : checkS L = 0
  · rw [if_pos c]
    have hv := valid_of c
    have hl := hv.len
    have hp := f58_eq (N := 31) hv (by omega)
    cases hq : (planS L).2 with
    | none =>
      rw [hq] at hp
      have := hp.2
      show (planS L).1.length ≤ 30
      omega
    | some q => exact Nat.zero_le _
  · rw [if_neg c]; exact Nat.zero_le _
theorem cuts_len {L : Layout} : (cutsS L).1.length ≤ 30 := by
  unfold cutsS
  split
  · exact Nat.le_trans cutsL_len (by omega)
  · exact Nat.zero_le _
theorem f13_any (n : Nat) : f13 (n + 31) = f13 31 := by
  have a1 : L0.Labels.length ≤ 30 := by decide
  have a2 : M0.Labels.length ≤ 30 := by decide
  have a3 : K1.length ≤ 30 := by decide
  have a4 : K2.length ≤ 30 := by decide
  have e1 : ∀ m, f41 (m + 31) = some L0 := fun m => f41_eq (n := m + 1)
  have e2 : ∀ m, f39 (m + 31) = some M0 := fun m => f39_eq (n := m + 1)
  have e3 : ∀ m, f40 (m + 31) [(2 : Int), (2 : Int), (3 : Int), (3 : Int), (1 : Int), (2 : Int)] = some K1 := fun m => f40_1 (n := m + 1)
  have e4 : ∀ m, f40 (m + 31) [(2 : Int), (2 : Int), (3 : Int), (2 : Int), (4 : Int), (5 : Int), (4 : Int), (2 : Int), (1 : Int)] = some K2 := fun m => f40_2 (n := m + 1)
  have lay30 : (layS 5 4 K1).1.Labels.length ≤ 30 := lay_len
  have plan30 : (planA L0).1.length ≤ 30 := plan_len
  have cuts30 : (cutsS L0).1.length ≤ 30 := cuts_len
  have body : ∀ m, f13 (m + 31) = f13 (0 + 31) := by
    intro m
    unfold f13
    simp only [e1, e2, e3, e4, f15_eq a1 (show 30 < m + 31 by omega), f15_eq a1 (show 30 < 0 + 31 by omega), f22_eq a1 (show 30 < m + 31 by omega), f22_eq a1 (show 30 < 0 + 31 by omega), f22_eq a2 (show 30 < m + 31 by omega), f22_eq a2 (show 30 < 0 + 31 by omega), f24_eq a2 (show 30 < m + 31 by omega), f24_eq a2 (show 30 < 0 + 31 by omega), f29_eq a3 (show 30 < m + 31 by omega), f29_eq a3 (show 30 < 0 + 31 by omega), f17_eq a1 a4 (show 30 < m + 31 by omega), f17_eq a1 a4 (show 30 < 0 + 31 by omega), f31_eq a3 (show 30 < m + 31 by omega), f31_eq a3 (show 30 < 0 + 31 by omega), f17_eq lay30 a3 (show 30 < m + 31 by omega), f17_eq lay30 a3 (show 30 < 0 + 31 by omega), f43_len cuts30 (show 30 < m + 31 by omega), f43_len cuts30 (show 30 < 0 + 31 by omega), f25_eq a1 plan30 (show 30 < m + 31 by omega), f25_eq a1 plan30 (show 30 < 0 + 31 by omega), f25_eq a1 (show [(⟨true, 2⟩ : Cut), ⟨false, 2⟩].length ≤ 30 by decide) (show 30 < m + 31 by omega), f25_eq a1 (show [(⟨true, 2⟩ : Cut), ⟨false, 2⟩].length ≤ 30 by decide) (show 30 < 0 + 31 by omega), f25_eq a1 (show [(⟨true, 3⟩ : Cut)].length ≤ 30 by decide) (show 30 < m + 31 by omega), f25_eq a1 (show [(⟨true, 3⟩ : Cut)].length ≤ 30 by decide) (show 30 < 0 + 31 by omega), Option.bind_some]
  exact body n

/-! split -/
def splitS (l : List Label) (c : Cut) : List Label × List Label × Bool :=
  bif l.all (fun x => before c x || behind c x) then (l.filter (before c), l.filter (fun x => !before c x), decide (0 < (l.filter (before c)).length) && decide (0 < (l.filter fun x => !before c x).length)) else ([], [], false)
theorem W_hi {x : Label} (hx : ∃ q, Small q ∧ Fits q x) : W (x.X + x.W) = x.X + x.W ∧ W (x.Y + x.H) = x.Y + x.H := by
  obtain ⟨q, hq, hf⟩ := hx
  have u1 := hq.x0; have u2 := hq.y0; have u3 := hq.x1; have u4 := hq.y1
  have t1 := hf.w; have t2 := hf.h; have t3 := hf.x0; have t4 := hf.y0; have t5 := hf.x1; have t6 := hf.y1
  exact ⟨W_in (by omega) (by omega), W_in (by omega) (by omega)⟩
theorem f36_eq {N : Nat} {l : List Label} {c : Cut} (hL : Laid l) (hl : l.length ≤ 30) (hN : 30 < N) : f36 N l c = some (splitS l c) := by
  show f36_2 l c f36_c13 N [] [] (0 : Int) = _
  have := loopI (F := fun n (s : List Label × List Label) j => f36_2 l c f36_c13 n s.1 s.2 j) l.length (fun i s => s.1 = (l.take i).filter (before c) ∧ s.2 = (l.take i).filter (fun x => !before c x) ∧ (l.take i).all (fun x => before c x || behind c x) = true) (fun r => r = splitS l c)
    (fun n s i hI hil => by
      obtain ⟨h1, h2, h3⟩ := hI
      have hx : l[i]? = some l[i] := by simp [hil]
      generalize l[i] = x at hx
      obtain ⟨w1, w2⟩ := W_hi (hL x (List.mem_of_getElem? hx))
      have hs1 : s.1.length ≤ 30 := by rw [h1]; exact Nat.le_trans (List.length_filter_le _ _) (by simp; omega)
      have hs2 : s.2.length ≤ 30 := by rw [h2]; exact Nat.le_trans (List.length_filter_le _ _) (by simp; omega)
      have red : f36_2 l c f36_c13 (n + 1) s.1 s.2 (i : Int) = f36_c8 l c s.1 s.2 (i : Int) (f36_2 l c f36_c13 n) x (lo c x) (hi c x) := by
        simp only [f36_2, f36_2b, decide_eq_true (show (i : Int) < (l.length : Int) by omega), cond_true, ix_nat, hx, Option.bind_some, joinK, w1, w2]
        unfold lo Vc.hi
        cases c.Up <;> rfl
      simp only [red, f36_c8]
      have ht : l.take (i + 1) = l.take i ++ [x] := by rw [List.take_add_one, hx]; rfl
      cases hb : before c x with
      | true =>
        right
        refine ⟨(s.1 ++ [x], s.2), ⟨by rw [ht, List.filter_append, h1]; simp [hb], by rw [ht, List.filter_append, h2]; simp [hb], by rw [ht, List.all_append, h3]; simp [hb]⟩, ?_⟩
        rw [decide_eq_true (show hi c x ≤ c.At from before_iff.1 hb), cond_true, app_ok (by simp; omega) (by simp; omega)]
        simp only [Option.bind_some, W_nat (show i < 9223372036854775807 by omega)]
      | false =>
        rw [decide_eq_false (show ¬ hi c x ≤ c.At from before_not.1 hb), cond_false]
        cases hb2 : behind c x with
        | true =>
          right
          refine ⟨(s.1, s.2 ++ [x]), ⟨by rw [ht, List.filter_append, h1]; simp [hb], by rw [ht, List.filter_append, h2]; simp [hb], by rw [ht, List.all_append, h3]; simp [hb2]⟩, ?_⟩
          rw [decide_eq_true (behind_iff.1 hb2), cond_true, app_ok (by simp; omega) (by simp; omega)]
          simp only [Option.bind_some, W_nat (show i < 9223372036854775807 by omega)]
        | false =>
          left
          refine ⟨_, by rw [decide_eq_false (fun h => by rw [behind_iff.2 h] at hb2; cases hb2), cond_false], ?_⟩
          unfold splitS
          have : l.all (fun x => before c x || behind c x) = false := by
            rw [List.all_eq_false]
            exact ⟨x, List.mem_of_getElem? hx, by rw [hb, hb2]; simp⟩
          rw [this]; rfl)
    (fun n s hI => by
      obtain ⟨h1, h2, h3⟩ := hI
      rw [List.take_length] at h1 h2 h3
      have red : f36_2 l c f36_c13 (n + 1) s.1 s.2 (l.length : Int) = f36_c13 s.1 s.2 := by
        simp only [f36_2, f36_2b, decide_eq_false (show ¬ (l.length : Int) < (l.length : Int) by omega), cond_false]
      refine ⟨_, ?_, rfl⟩
      rw [red]
      simp only [f36_c13, splitS, h3, cond_true]
      rw [h1, h2]
      by_cases d : 0 < (l.filter (before c)).length
      · rw [decide_eq_true (show (0 : Int) < ((l.filter (before c)).length : Int) by omega), cond_true, decide_eq_true d, Bool.true_and]
        congr 3
        rw [Bool.eq_iff_iff, decide_eq_true_iff, decide_eq_true_iff]; omega
      · rw [decide_eq_false (show ¬ (0 : Int) < ((l.filter (before c)).length : Int) by omega), cond_false, decide_eq_false d, Bool.false_and])
    N ([], []) 0 ⟨rfl, rfl, rfl⟩ (Nat.zero_le _) (by omega)
  obtain ⟨r, h1, h2⟩ := this
  subst h2
  exact h1
end Go.Vc
/-
  PLAIN LAWS OF CUT, 13: apart by all lines, followed, meet, and pages by numbers.
-/
namespace Go.Vc
set_option linter.unusedVariables false
set_option linter.unnecessarySimpa false
set_option linter.unusedSimpArgs false
set_option linter.unusedSimpArgs false

theorem Laid.filter {l : List Label} (h : Laid l) (f : Label → Bool) : Laid (l.filter f) := fun x hx => h x (List.mem_filter.1 hx).1
/-- a line that leaves labels on both sides -/
theorem splitS_is {l : List Label} {c : Cut} : (splitS l c).2.2 = true ↔ (∀ x, x ∈ l → (before c x || behind c x) = true) ∧ (∃ x, x ∈ l ∧ before c x = true) ∧ (∃ x, x ∈ l ∧ before c x = false) := by
  unfold splitS
  cases ha : l.all (fun x => before c x || behind c x) with
  | false =>
    rw [cond_false]
    refine ⟨fun h => (by cases h), fun h => ?_⟩
    have := List.all_eq_true.2 h.1
    rw [ha] at this; cases this
  | true =>
    rw [cond_true]
    simp only [Bool.and_eq_true, decide_eq_true_eq]
    constructor
    · rintro ⟨h1, h2⟩
      obtain ⟨x, hx⟩ := List.exists_mem_of_length_pos h1
      obtain ⟨y, hy⟩ := List.exists_mem_of_length_pos h2
      exact ⟨List.all_eq_true.1 ha, ⟨x, (List.mem_filter.1 hx).1, (List.mem_filter.1 hx).2⟩, y, (List.mem_filter.1 hy).1, by simpa using (List.mem_filter.1 hy).2⟩
    · rintro ⟨_, ⟨x, hx, hb⟩, y, hy, hb'⟩
      exact ⟨List.length_pos_of_mem (List.mem_filter.2 ⟨hx, hb⟩), List.length_pos_of_mem ((List.mem_filter (p := fun x => !before c x)).2 ⟨hy, by rw [hb']; rfl⟩)⟩
theorem splitS_parts {l : List Label} {c : Cut} (h : (splitS l c).2.2 = true) : (splitS l c).1 = l.filter (before c) ∧ (splitS l c).2.1 = l.filter (fun x => !before c x) := by
  have := List.all_eq_true.2 (splitS_is.1 h).1
  unfold splitS
  rw [this]; exact ⟨rfl, rfl⟩
theorem split_lens {l : List Label} {c : Cut} (h : (splitS l c).2.2 = true) : (l.filter (before c)).length < l.length ∧ (l.filter fun x => !before c x).length < l.length := by
  obtain ⟨_, ⟨x, hx, hb⟩, y, hy, hb'⟩ := splitS_is.1 h
  have h1 := List.length_pos_of_mem (List.mem_filter.2 ⟨hx, hb⟩)
  have h2 := List.length_pos_of_mem ((List.mem_filter (p := fun x => !before c x)).2 ⟨hy, by rw [hb']; rfl⟩)
  have := split_len (l := l) (before c)
  omega
theorem Sep.of_split {l : List Label} {c : Cut} (h : (splitS l c).2.2 = true) : Sep l ↔ Sep (l.filter (before c)) ∧ Sep (l.filter fun x => !before c x) :=
  ⟨fun hs => ⟨hs.filter _, hs.filter _⟩, fun hs => .cut c (splitS_is.1 h).1 hs.1 hs.2⟩
/-- a line between labels of a sheet lies at 1 to 11 -/
theorem line_at {l : List Label} {c : Cut} (hL : Laid l) (h : (splitS l c).2.2 = true) : 1 ≤ c.At ∧ c.At ≤ 11 := by
  obtain ⟨hall, ⟨x, hx, hb⟩, y, hy, hb'⟩ := splitS_is.1 h
  have h2 := hall y hy
  rw [hb', Bool.false_or, behind_iff] at h2
  rw [before_iff] at hb
  obtain ⟨q, hq, hf⟩ := hL x hx
  have u1 := hq.x0; have u2 := hq.y0; have u3 := hq.x1; have u4 := hq.y1
  have t1 := hf.w; have t2 := hf.h; have t3 := hf.x0; have t4 := hf.y0; have t5 := hf.x1; have t6 := hf.y1
  obtain ⟨q', hq', hf'⟩ := hL y hy
  have v1 := hq'.x0; have v2 := hq'.y0; have v3 := hq'.x1; have v4 := hq'.y1
  have w1 := hf'.w; have w2 := hf'.h; have w3 := hf'.x0; have w4 := hf'.y0; have w5 := hf'.x1; have w6 := hf'.y1
  unfold hi at hb
  unfold lo at h2
  cases hc : c.Up with
  | true => rw [hc] at hb h2; rw [cond_true] at hb h2; omega
  | false => rw [hc] at hb h2; rw [cond_false] at hb h2; omega
theorem f33_eq : ∀ (m n : Nat) (l : List Label), Laid l → l.length ≤ m → l.length ≤ 20 → 40 + l.length < n → ∃ b, f33 n l = some b ∧ (b = true ↔ Sep l) := by
  intro m
  induction m with
  | zero =>
    intro n l _ hm _ hn
    obtain ⟨n, rfl⟩ : ∃ k, n = k + 1 := ⟨n - 1, by omega⟩
    have : l = [] := List.length_eq_zero_iff.1 (by omega)
    subst this
    exact ⟨true, rfl, fun _ => .few (Nat.zero_le _), fun _ => rfl⟩
  | succ m ih =>
    intro n l hL hm h20 hn
    obtain ⟨n, rfl⟩ : ∃ k, n = k + 1 := ⟨n - 1, by omega⟩
    simp only [f33, f33b]
    by_cases h2 : l.length < 2
    · rw [decide_eq_true (show (l.length : Int) < 2 by omega)]
      exact ⟨true, rfl, fun _ => .few (by omega), fun _ => rfl⟩
    · rw [decide_eq_false (show ¬ (l.length : Int) < 2 by omega), cond_false]
      simp only [joinK]
      -- no line up to here leaves two parts that are apart
      let Bad : Cut → Prop := fun c => (splitS l c).2.2 = true → ¬ (Sep (l.filter (before c)) ∧ Sep (l.filter fun x => !before c x))
      have inner7 : ∀ (at_ : Nat) (k1 : Option Bool), (∃ b, f33_7 l n (f33 n) (at_ : Int) k1 n (0 : Int) = some b ∧ (b = true ∧ Sep l)) ∨ (f33_7 l n (f33 n) (at_ : Int) k1 n (0 : Int) = k1 ∧ Bad ⟨false, at_⟩ ∧ Bad ⟨true, at_⟩) := by
        intro at_ k1
        obtain ⟨k, rfl⟩ : ∃ k, n = k + 3 := ⟨n - 3, by omega⟩
        have one : ∀ (j : Nat) (v : Int) (up : Bool), ix [false, true] v = some up → decide (v < (List.length [false, true] : Int)) = true →
            (f33_7 l (k + 3) (f33 (k + 3)) (at_ : Int) k1 (j + 1) v = some true ∧ Sep l) ∨ (f33_7 l (k + 3) (f33 (k + 3)) (at_ : Int) k1 (j + 1) v = f33_7 l (k + 3) (f33 (k + 3)) (at_ : Int) k1 j (W (v + (1 : Int))) ∧ Bad ⟨up, at_⟩) := by
          intro j v up hup hv
          simp only [f33_7, f33_7b, hv, cond_true, hup, Option.bind_some, f36_eq (c := ⟨up, (at_ : Int)⟩) hL (show l.length ≤ 30 by omega) (show 30 < k + 3 by omega)]
          cases his : (splitS l ⟨up, (at_ : Int)⟩).2.2 with
          | false => right; exact ⟨rfl, fun h => by rw [his] at h; cases h⟩
          | true =>
            obtain ⟨p1, p2⟩ := splitS_parts his
            obtain ⟨l1, l2⟩ := split_lens his
            rw [p1, p2, cond_true]
            obtain ⟨b1, e1, q1⟩ := ih (k + 3) (l.filter (before ⟨up, (at_ : Int)⟩)) (hL.filter _) (by omega) (by omega) (by omega)
            obtain ⟨b2, e2, q2⟩ := ih (k + 3) (l.filter fun x => !before ⟨up, (at_ : Int)⟩ x) (hL.filter _) (by omega) (by omega) (by omega)
            rw [e1]
            simp only [Option.bind_some, e2]
            cases b1 with
            | false => right; exact ⟨rfl, fun _ h => by have := q1.2 h.1; cases this⟩
            | true =>
              cases b2 with
              | false => right; exact ⟨rfl, fun _ h => by have := q2.2 h.2; cases this⟩
              | true => left; exact ⟨rfl, (Sep.of_split his).2 ⟨q1.1 rfl, q2.1 rfl⟩⟩
        rcases one (k + 2) 0 false rfl rfl with ⟨h, hs⟩ | ⟨h, hb⟩
        · left; exact ⟨true, h, rfl, hs⟩
        · rcases one (k + 1) 1 true rfl rfl with ⟨h', hs⟩ | ⟨h', hb'⟩
          · left; exact ⟨true, by rw [h]; exact h', rfl, hs⟩
          · right
            refine ⟨?_, hb, hb'⟩
            rw [h]
            exact h'
      have := loopI (F := fun k (_ : Unit) j => f33_4 l n (f33 n) f33_c13 k j) 12 (fun i _ => ∀ j : Nat, 1 ≤ j → j < i → Bad ⟨false, j⟩ ∧ Bad ⟨true, j⟩) (fun b => b = true ↔ Sep l)
        (fun k s i hI hi => by
          simp only [f33_4, f33_4b, decide_eq_true (show (i : Int) < 12 by omega), cond_true, joinK, f33_c5, W_nat (show i < 9223372036854775807 by omega)]
          rcases inner7 i (f33_4 l n (f33 n) f33_c13 k ((i + 1 : Nat) : Int)) with ⟨b, h1, h2, h3⟩ | ⟨h1, h2, h3⟩
          · left; exact ⟨b, h1, fun _ => h3, fun _ => h2⟩
          · right
            refine ⟨(), fun j hj hj' => ?_, h1⟩
            by_cases he : j = i
            · subst he; exact ⟨h2, h3⟩
            · exact hI j hj (by omega))
        (fun k s hI => by
          refine ⟨false, rfl, fun h => (by cases h), fun hs => ?_⟩
          obtain ⟨c, g1, g2, g3⟩ := hs.line (by omega)
          have his := splitS_is.2 ⟨g1, g2, g3⟩
          obtain ⟨a1, a2⟩ := line_at hL his
          obtain ⟨up, a⟩ := c
          obtain ⟨i, rfl⟩ : ∃ i : Nat, a = (i : Int) := ⟨a.toNat, by simp only at a1; omega⟩
          have hb := hI i (by simp only at a1; omega) (by simp only at a2; omega)
          have both := (Sep.of_split his).1 hs
          cases up with
          | true => exact absurd both (hb.2 his)
          | false => exact absurd both (hb.1 his))
        n () 1 (fun j h1 h2 => by omega) (by omega) (by omega)
      exact this
/-! followed -/
theorem isCut_split {p : Label} {l : List Label} {c : Cut} (hp : Pc p l) : isCut p l c = (splitS l c).2.2 := by
  rw [Bool.eq_iff_iff, splitS_is]
  exact ⟨fun h => (isCut_parts h).2, fun h => isCut_of hp h.1 h.2.1 h.2.2⟩
def follR : Ver → List Cut × Bool
  | .left r => (r, true)
  | .err _ => ([], false)
theorem Pc.laid {p : Label} {l : List Label} (h : Pc p l) : Laid l := fun x hx => ⟨p, h.small, h.fits x hx⟩
theorem f34_eq : ∀ (m n : Nat) (p : Label) (l : List Label) (pl : List Cut), Pc p l → l.length ≤ m → l.length ≤ 20 → 40 + l.length < n → pl.length ≤ 1000 → f34 n l pl = some (follR (verR m p l pl)) := by
  intro m
  induction m with
  | zero =>
    intro n p l pl _ hm _ hn _
    obtain ⟨n, rfl⟩ : ∃ k, n = k + 1 := ⟨n - 1, by omega⟩
    have : l = [] := List.length_eq_zero_iff.1 (by omega)
    subst this; rfl
  | succ m ih =>
    intro n p l pl hp hm h20 hn hpl
    obtain ⟨n, rfl⟩ : ∃ k, n = k + 1 := ⟨n - 1, by omega⟩
    simp only [f34, f34b, verR]
    by_cases h2 : l.length < 2
    · rw [if_pos h2, decide_eq_true (show (l.length : Int) < 2 by omega)]; rfl
    · rw [if_neg h2, decide_eq_false (show ¬ (l.length : Int) < 2 by omega), cond_false]
      cases pl with
      | nil => rfl
      | cons c r =>
        rw [decide_eq_false (show ¬ ((c :: r).length : Int) = 0 by simp only [List.length_cons]; omega), cond_false, show ix (c :: r) (0 : Int) = some c from rfl]
        simp only [Option.bind_some, f36_eq (c := c) hp.laid (show l.length ≤ 30 by omega) (show 30 < n by omega), isCut_split hp]
        cases his : (splitS l c).2.2 with
        | false => rfl
        | true =>
          have hc : isCut p l c = true := by rw [isCut_split hp]; exact his
          obtain ⟨p1, p2⟩ := splitS_parts his
          obtain ⟨l1, l2⟩ := split_lens his
          rw [p1, p2, Bool.not_true, cond_false, cond_true]
          have hsub : sub (c :: r) (1 : Int) ((c :: r).length : Int) = some r := (sub_nat (a := 1) (b := (c :: r).length) (by simp) (Nat.le_refl _)).trans (by simp)
          rw [hsub]
          simp only [Option.bind_some]
          simp only [List.length_cons] at hpl
          rw [ih n (half1 p c) _ r (hp.half1 hc) (by omega) (by omega) (by omega) (by omega)]
          simp only [Option.bind_some]
          have hrem := verR_len m (half1 p c) (l.filter (before c)) r
          cases hA : verR m (half1 p c) (l.filter (before c)) r with
          | err e => rfl
          | left r' =>
            rw [hA] at hrem
            simp only [follR, Bool.not_true, cond_false]
            rw [ih n (half2 p c) _ r' (hp.half2 hc) (by omega) (by omega) (by omega) (by have := hrem r' rfl; omega)]
            rfl
where
  verR_len : ∀ (m : Nat) (p : Label) (l : List Label) (pl r : List Cut), verR m p l pl = .left r → r.length ≤ pl.length
  | 0, _, _, pl, r, h => by cases h; exact Nat.le_refl _
  | m + 1, p, l, pl, r, h => by
    simp only [verR] at h
    by_cases h2 : l.length < 2
    · rw [if_pos h2] at h; cases h; exact Nat.le_refl _
    · rw [if_neg h2] at h
      cases pl with
      | nil => cases h
      | cons c r0 =>
        simp only at h
        cases hc : isCut p l c with
        | false => rw [hc] at h; cases h
        | true =>
          rw [hc, cond_true] at h
          cases hA : verR m (half1 p c) (l.filter (before c)) r0 with
          | err e => rw [hA] at h; cases h
          | left r' =>
            rw [hA] at h
            have h1 := verR_len m _ _ _ _ hA
            have h2 := verR_len m _ _ _ _ h
            simp only [List.length_cons]; omega
/-! meet -/
theorem f35_eq {N : Nat} {x y : Label} (hx : ∃ q, Small q ∧ Fits q x) (hy : 0 ≤ y.X ∧ 0 ≤ y.Y ∧ y.X + y.W ≤ 100 ∧ y.Y + y.H ≤ 100 ∧ 1 ≤ y.W ∧ 1 ≤ y.H) (hN : 30 < N) : ∃ b, f35 N x y = some b ∧ (b = true ↔ ¬ Apart2 x y) := by
  obtain ⟨w1, w2⟩ := W_hi hx
  obtain ⟨q, hq, hf⟩ := hx
  have u1 := hq.x0; have u2 := hq.y0; have u3 := hq.x1; have u4 := hq.y1
  have t1 := hf.w; have t2 := hf.h; have t3 := hf.x0; have t4 := hf.y0; have t5 := hf.x1; have t6 := hf.y1
  have e1 : W (y.X + y.W) = y.X + y.W := W_in (by omega) (by omega)
  have e2 : W (y.Y + y.H) = y.Y + y.H := W_in (by omega) (by omega)
  let Hit : Int → Int → Prop := fun i j => y.X ≤ i ∧ i < y.X + y.W ∧ y.Y ≤ j ∧ j < y.Y + y.H
  have inner5 : ∀ (i : Int) (k1 : Option Bool), (f35_5 x y i k1 N x.Y = some true ∧ ∃ j, x.Y ≤ j ∧ j < x.Y + x.H ∧ Hit i j) ∨ (f35_5 x y i k1 N x.Y = k1 ∧ ∀ j, x.Y ≤ j → j < x.Y + x.H → ¬ Hit i j) := by
    intro i k1
    obtain ⟨a, ha⟩ : ∃ a : Nat, x.Y = (a : Int) := ⟨x.Y.toNat, by omega⟩
    obtain ⟨b, hb⟩ : ∃ b : Nat, x.Y + x.H = (b : Int) := ⟨(x.Y + x.H).toNat, by omega⟩
    have key : ∀ (m n : Nat) (j : Nat), j + m = b → a ≤ j → m < n → (∀ j' : Int, (a : Int) ≤ j' → j' < (j : Int) → ¬ Hit i j') → (f35_5 x y i k1 n (j : Int) = some true ∧ ∃ j, x.Y ≤ j ∧ j < x.Y + x.H ∧ Hit i j) ∨ (f35_5 x y i k1 n (j : Int) = k1 ∧ ∀ j, x.Y ≤ j → j < x.Y + x.H → ¬ Hit i j) := by
      intro m
      induction m with
      | zero =>
        intro n j hj _ hn hno
        obtain ⟨n, rfl⟩ : ∃ k, n = k + 1 := ⟨n - 1, by omega⟩
        right
        refine ⟨by simp only [f35_5, f35_5b, w2, decide_eq_false (show ¬ (j : Int) < x.Y + x.H by omega), cond_false], fun j' h1 h2 => hno j' (by omega) (by omega)⟩
      | succ m ih =>
        intro n j hj haj hn hno
        obtain ⟨n, rfl⟩ : ∃ k, n = k + 1 := ⟨n - 1, by omega⟩
        by_cases hh : Hit i (j : Int)
        · left
          obtain ⟨h1, h2, h3, h4⟩ := hh
          exact ⟨by simp only [f35_5, f35_5b, w2, e1, e2, decide_eq_true (show (j : Int) < x.Y + x.H by omega), decide_eq_true h1, decide_eq_true h2, decide_eq_true h3, decide_eq_true h4, cond_true], j, by omega, by omega, h1, h2, h3, h4⟩
        · have step : f35_5 x y i k1 (n + 1) (j : Int) = f35_5 x y i k1 n ((j + 1 : Nat) : Int) := by
            simp only [f35_5, f35_5b, w2, e1, e2, decide_eq_true (show (j : Int) < x.Y + x.H by omega), cond_true, W_nat (show j < 9223372036854775807 by omega)]
            by_cases h1 : y.X ≤ i
            · by_cases h2 : i < y.X + y.W
              · by_cases h3 : y.Y ≤ (j : Int)
                · have h4 : ¬ (j : Int) < y.Y + y.H := fun h4 => hh ⟨h1, h2, h3, h4⟩
                  simp [h1, h2, h3, h4]
                · simp [h1, h2, h3]
              · simp [h1, h2]
            · simp [h1]
          rw [step]
          refine ih n (j + 1) (by omega) (by omega) (by omega) fun j' h1 h2 => ?_
          by_cases he : j' = (j : Int)
          · subst he; exact hh
          · exact hno j' h1 (by omega)
    have := key (b - a) N a (by omega) (Nat.le_refl _) (by omega) (fun j' h1 h2 => by omega)
    rw [ha]
    rw [ha] at this
    exact this
  obtain ⟨a, ha⟩ : ∃ a : Nat, x.X = (a : Int) := ⟨x.X.toNat, by omega⟩
  obtain ⟨b, hb⟩ : ∃ b : Nat, x.X + x.W = (b : Int) := ⟨(x.X + x.W).toNat, by omega⟩
  have key : ∀ (m n : Nat) (i : Nat), i + m = b → a ≤ i → m < n → (∀ i' : Int, (a : Int) ≤ i' → i' < (i : Int) → ∀ j, x.Y ≤ j → j < x.Y + x.H → ¬ Hit i' j) → (f35_2 x y N f35_c9 n (i : Int) = some true ∧ ∃ i j, x.X ≤ i ∧ i < x.X + x.W ∧ x.Y ≤ j ∧ j < x.Y + x.H ∧ Hit i j) ∨ (f35_2 x y N f35_c9 n (i : Int) = some false ∧ ∀ i j, x.X ≤ i → i < x.X + x.W → x.Y ≤ j → j < x.Y + x.H → ¬ Hit i j) := by
    intro m
    induction m with
    | zero =>
      intro n i hi _ hn hno
      obtain ⟨n, rfl⟩ : ∃ k, n = k + 1 := ⟨n - 1, by omega⟩
      right
      refine ⟨by simp only [f35_2, f35_2b, w1, decide_eq_false (show ¬ (i : Int) < x.X + x.W by omega), cond_false]; rfl, fun i' j h1 h2 h3 h4 => hno i' (by omega) (by omega) j h3 h4⟩
    | succ m ih =>
      intro n i hi hai hn hno
      obtain ⟨n, rfl⟩ : ∃ k, n = k + 1 := ⟨n - 1, by omega⟩
      have step : f35_2 x y N f35_c9 (n + 1) (i : Int) = f35_5 x y (i : Int) (f35_2 x y N f35_c9 n ((i + 1 : Nat) : Int)) N x.Y := by
        simp only [f35_2, f35_2b, w1, decide_eq_true (show (i : Int) < x.X + x.W by omega), cond_true, joinK, f35_c3, W_nat (show i < 9223372036854775807 by omega)]
      rw [step]
      rcases inner5 (i : Int) (f35_2 x y N f35_c9 n ((i + 1 : Nat) : Int)) with ⟨h, j, h1, h2, h3⟩ | ⟨h, hno'⟩
      · left; exact ⟨h, i, j, by omega, by omega, h1, h2, h3⟩
      · rw [h]
        refine ih n (i + 1) (by omega) (by omega) (by omega) fun i' h1 h2 j h3 h4 => ?_
        by_cases he : i' = (i : Int)
        · subst he; exact hno' j h3 h4
        · exact hno i' h1 (by omega) j h3 h4
  have := key (b - a) N a (by omega) (Nat.le_refl _) (by omega) (fun i' h1 h2 => by omega)
  show ∃ b, f35_2 x y N f35_c9 N x.X = some b ∧ _
  rw [ha]
  rcases this with ⟨h, i, j, g1, g2, g3, g4, k1, k2, k3, k4⟩ | ⟨h, hno⟩
  · refine ⟨true, h, fun _ => ?_, fun _ => rfl⟩
    unfold Apart2
    omega
  · refine ⟨false, h, fun h => (by cases h), fun hap => ?_⟩
    exfalso
    unfold Apart2 at hap
    have : ∃ i, x.X ≤ i ∧ i < x.X + x.W ∧ y.X ≤ i ∧ i < y.X + y.W := ⟨max x.X y.X, by omega, by omega, by omega, by omega⟩
    obtain ⟨i, i1, i2, i3, i4⟩ := this
    have : ∃ j, x.Y ≤ j ∧ j < x.Y + x.H ∧ y.Y ≤ j ∧ j < y.Y + y.H := ⟨max x.Y y.Y, by omega, by omega, by omega, by omega⟩
    obtain ⟨j, j1, j2, j3, j4⟩ := this
    exact hno i j i1 i2 j1 j2 ⟨i3, i4, j3, j4⟩
end Go.Vc
namespace Go.Vc
open Go.Proofs
set_option linter.unusedVariables false
set_option linter.unnecessarySimpa false
set_option linter.unusedSimpArgs false
def f6_c30 (N : Nat) (v11 : List Label) : Option (Bool) :=
 bif decide ((3 : Int) < (List.length v11 : Int)) then ((f13 N ).bind fun x8 =>
 some (x8))
 else (some (false))
def f6_22b (r22 : Int → Option (Bool)) (N : Nat) (v11 : List Label) (k0 : Option (Bool)) (v14 : Int) : Option (Bool) :=
 bif decide (v14 < (12 : Int)) then ((f36 N v11 (Cut.mk false v14)).bind fun x9 =>
 bif x9.2.2 then (some (false))
 else ((f36 N v11 (Cut.mk true v14)).bind fun x10 =>
 bif x10.2.2 then (some (false))
 else (r22 (W (v14 + (1 : Int))))))
 else k0
def f6_22 (N : Nat) (v11 : List Label) (k0 : Option (Bool)) : Nat → Int → Option (Bool)
  | 0, _ => none
  | n + 1, v14 => f6_22b (f6_22 N v11 k0 n) N v11 k0 v14
def f6_c21 (N : Nat) (v11 : List Label) : Option (Bool) :=
 joinK (f6_c30 N v11) fun k0 =>
 f6_22 N v11 k0 N (0 : Int)
def f6_14b (r14 : (List Label) → Int → Option (Bool)) (N : Nat) (x1 : Layout) (x4 : Label × Int) (k1 : (List Label) → Option (Bool)) (v11 : List Label) (v129 : Int) : Option (Bool) :=
 bif decide (v129 < (List.length x1.Labels : Int)) then ((ix x1.Labels v129).bind fun x11 =>
 bif decide (x4.1.X ≤ x11.X) then (bif decide (x4.1.Y ≤ x11.Y) then (bif decide ((W (x11.X + x11.W)) ≤ (W (x4.1.X + x4.1.W))) then (bif decide ((W (x11.Y + x11.H)) ≤ (W (x4.1.Y + x4.1.H))) then ((app 32 v11 [x11]).bind fun x12 =>
 r14 x12 (W (v129 + (1 : Int))))
 else ((f35 N x11 x4.1).bind fun x13 =>
 bif x13 then (some (false))
 else (r14 v11 (W (v129 + (1 : Int))))))
 else ((f35 N x11 x4.1).bind fun x14 =>
 bif x14 then (some (false))
 else (r14 v11 (W (v129 + (1 : Int))))))
 else ((f35 N x11 x4.1).bind fun x15 =>
 bif x15 then (some (false))
 else (r14 v11 (W (v129 + (1 : Int))))))
 else ((f35 N x11 x4.1).bind fun x16 =>
 bif x16 then (some (false))
 else (r14 v11 (W (v129 + (1 : Int))))))
 else (k1 v11)
def f6_14 (N : Nat) (x1 : Layout) (x4 : Label × Int) (k1 : (List Label) → Option (Bool)) : Nat → (List Label) → Int → Option (Bool)
  | 0, _, _ => none
  | n + 1, v11, v129 => f6_14b (f6_14 N x1 x4 k1 n) N x1 x4 k1 v11 v129
def f6_c7 (N : Nat) (x1 : Layout) (x2 : Bool) (x3 : (List Cut) × Int) (x4 : Label × Int) : Option (Bool) :=
 bif x2 then ((f34 N x1.Labels x3.1).bind fun x5 =>
 bif decide (x3.2 = (0 : Int)) then (bif decide (x4.2 = (14 : Int)) then (bif x5.2 then (bif decide ((List.length x5.1 : Int) = (0 : Int)) then (bif decide ((List.length x3.1 : Int) = (max (0 : Int) (W ((List.length x1.Labels : Int) - (1 : Int))))) then ((f25 N x1 x3.1).bind fun x6 =>
 bif decide (x6 = (0 : Int)) then ((f13 N ).bind fun x7 =>
 some (x7))
 else (some (false)))
 else (some (false)))
 else (some (false)))
 else (some (false)))
 else (some (false)))
 else (some (false)))
 else (bif decide (¬ x3.2 = (14 : Int)) then (some (false))
 else (bif decide (¬ x4.2 = (0 : Int)) then (some (false))
 else (bif decide ((0 : Int) < (List.length x3.1 : Int)) then (some (false))
 else (bif decide (x4.1.X < (0 : Int)) then (some (false))
 else (bif decide (x4.1.Y < (0 : Int)) then (some (false))
 else (bif decide (x4.1.W < (1 : Int)) then (some (false))
 else (bif decide (x4.1.H < (1 : Int)) then (some (false))
 else (bif decide ((6 : Int) < x4.1.W) then (some (false))
 else (bif decide ((6 : Int) < x4.1.H) then (some (false))
 else (joinK (f6_c21 N) fun k1 =>
 f6_14 N x1 x4 k1 N [] (0 : Int)))))))))))
def f6 (N : Nat) (a0 : Page) : Option (Bool) :=
 (f32 N a0).bind fun x1 =>
 (f33 N x1.Labels).bind fun x2 =>
 (f22 N x1).bind fun x3 =>
 (f24 N x1).bind fun x4 =>
 joinK (f6_c7 N x1 x2 x3 x4) fun k2 =>
 bif decide ((List.length x1.Labels : Int) < (4 : Int)) then (bif !x2 then (some (false))
 else k2)
 else k2
end Go.Vc
namespace Go.Vc
open Go.Proofs
set_option linter.unusedVariables false
set_option linter.unnecessarySimpa false
set_option linter.unusedSimpArgs false
def f7_c24 (N : Nat) (x3 : (List Cut) × Int) (v7 : Int) : Option (Bool) :=
 bif decide (v7 = (List.length x3.1 : Int)) then ((f13 N ).bind fun x4 =>
 some (x4))
 else (some (false))
def f7_c23 (x1 : Layout) (x2 : Bool) (x3 : (List Cut) × Int) (v33 : Int) (r8 : Int → Int → Option (Bool)) (v7' : Int) : Option (Bool) :=
 r8 (v7') (W (v33 + (1 : Int)))
def f7_c17 (N : Nat) (x1 : Layout) (x2 : Bool) (x3 : (List Cut) × Int) (v33 : Int) (x5 : Bool) (v7' : Int) (v10 : Int) (r11 : Int → Int → Option (Bool)) (x6 : (List Label) × (List Label) × Bool) : Option (Bool) :=
 bif !x6.2.2 then (r11 (v7') (W (v10 + (1 : Int))))
 else ((f22 N (Layout.mk x1.W x1.H x6.1)).bind fun x7 =>
 (f22 N (Layout.mk x1.W x1.H x6.2.1)).bind fun x8 =>
 bif decide (x7.2 = (0 : Int)) then (bif !((decide (x8.2 = (0 : Int))) == x2) then (some (false))
 else ((f33 N x6.1).bind fun x9 =>
 bif x9 then ((f33 N x6.2.1).bind fun x10 =>
 bif !(x10 == x2) then (some (false))
 else (r11 (W ((v7') + (1 : Int))) (W (v10 + (1 : Int)))))
 else (bif !(false == x2) then (some (false))
 else (r11 (W ((v7') + (1 : Int))) (W (v10 + (1 : Int)))))))
 else (bif !(false == x2) then (some (false))
 else ((f33 N x6.1).bind fun x11 =>
 bif x11 then ((f33 N x6.2.1).bind fun x12 =>
 bif !(x12 == x2) then (some (false))
 else (r11 (W ((v7') + (1 : Int))) (W (v10 + (1 : Int)))))
 else (r11 (W ((v7') + (1 : Int))) (W (v10 + (1 : Int)))))))
def f7_11b (r11 : Int → Int → Option (Bool)) (N : Nat) (x1 : Layout) (x2 : Bool) (x3 : (List Cut) × Int) (v33 : Int) (k1 : Int → Option (Bool)) (x5 : Bool) (v7' : Int) (v10 : Int) : Option (Bool) :=
 bif decide (v10 < (13 : Int)) then ((f36 N x1.Labels (Cut.mk x5 v10)).bind fun x6 =>
 joinK (f7_c17 N x1 x2 x3 v33 x5 v7' v10 r11 x6) fun k2 =>
 bif decide ((v7') < (List.length x3.1 : Int)) then ((ix x3.1 (v7')).bind fun x13 =>
 bif !(x6.2.2 == ((x13.Up == x5) && (decide (x13.At = v10) && true))) then (some (false))
 else k2)
 else (bif !(x6.2.2 == false) then (some (false))
 else k2))
 else (k1 (v7'))
def f7_11 (N : Nat) (x1 : Layout) (x2 : Bool) (x3 : (List Cut) × Int) (v33 : Int) (k1 : Int → Option (Bool)) (x5 : Bool) : Nat → Int → Int → Option (Bool)
  | 0, _, _ => none
  | n + 1, v7', v10 => f7_11b (f7_11 N x1 x2 x3 v33 k1 x5 n) N x1 x2 x3 v33 k1 x5 v7' v10
def f7_8b (r8 : Int → Int → Option (Bool)) (N : Nat) (x1 : Layout) (x2 : Bool) (x3 : (List Cut) × Int) (k0 : Int → Option (Bool)) (v7 : Int) (v33 : Int) : Option (Bool) :=
 bif decide (v33 < (List.length [true, false] : Int)) then (joinK (f7_c23 x1 x2 x3 v33 r8) fun k1 =>
 (ix [true, false] v33).bind fun x5 =>
 f7_11 N x1 x2 x3 v33 k1 x5 N v7 (0 : Int))
 else (k0 v7)
def f7_8 (N : Nat) (x1 : Layout) (x2 : Bool) (x3 : (List Cut) × Int) (k0 : Int → Option (Bool)) : Nat → Int → Int → Option (Bool)
  | 0, _, _ => none
  | n + 1, v7, v33 => f7_8b (f7_8 N x1 x2 x3 k0 n) N x1 x2 x3 k0 v7 v33
def f7 (N : Nat) (a0 : Page) : Option (Bool) :=
 (f32 N a0).bind fun x1 =>
 (f33 N x1.Labels).bind fun x2 =>
 (f15 N x1).bind fun x3 =>
 bif decide (¬ x3.2 = (0 : Int)) then (some (false))
 else (joinK (f7_c24 N x3) fun k0 =>
 f7_8 N x1 x2 x3 k0 N (0 : Int) (0 : Int))
end Go.Vc
namespace Go.Vc
open Go.Proofs
set_option linter.unusedVariables false
set_option linter.unnecessarySimpa false
set_option linter.unusedSimpArgs false
def f8_c11 (N : Nat) (x1 : Layout) (v6' : List Cut) : Option (Bool) :=
 (f34 N x1.Labels (v6')).bind fun x2 =>
 (f25 N x1 (v6')).bind fun x3 =>
 bif x2.2 then (bif ((decide (x3 = (0 : Int))) == (decide ((List.length x2.1 : Int) = (0 : Int)))) then (bif ((decide (x3 = (21 : Int))) == (decide ((0 : Int) < (List.length x2.1 : Int)))) then ((f13 N ).bind fun x4 =>
 some (x4))
 else (some (false)))
 else (some (false)))
 else (bif ((decide (x3 = (0 : Int))) == false) then (bif ((decide (x3 = (21 : Int))) == false) then (bif decide (x3 = (22 : Int)) then ((f13 N ).bind fun x5 =>
 some (x5))
 else (bif decide (x3 = (13 : Int)) then ((f13 N ).bind fun x6 =>
 some (x6))
 else (some (false))))
 else (some (false)))
 else (some (false)))
def f8_c7 (a1 : List A2u8N) (N : Nat) (x1 : Layout) (v6 : List Cut) : Option (Bool) :=
 joinK (f8_c11 N x1) fun k0 =>
 (f22 N x1).bind fun x7 =>
 bif decide (x7.2 = (0 : Int)) then (bif decide ((0 : Int) < (List.length a1 : Int)) then ((ix a1 (0 : Int)).bind fun x8 =>
 (chk (decide ((W ((List.length x7.1 : Int) + (1 : Int))) ≠ 0))).bind fun _ =>
 (sub x7.1 0 (Int.tmod (W (Int.tdiv x8.e0 (2 : Int))) (W ((List.length x7.1 : Int) + (1 : Int))))).bind fun x9 =>
 (app 16 [] x9).bind fun x10 =>
 (ix a1 (0 : Int)).bind fun x11 =>
 (sub v6 0 (min (List.length v6 : Int) (Int.tmod x11.e1 (3 : Int)))).bind fun x12 =>
 (app 16 x10 x12).bind fun x13 =>
 k0 x13)
 else (k0 v6))
 else (k0 v6)
def f8_4b (r4 : (List Cut) → Int → Option (Bool)) (a1 : List A2u8N) (x1 : Layout) (k1 : (List Cut) → Option (Bool)) (v6 : List Cut) (v7 : Int) : Option (Bool) :=
 bif decide (v7 < (List.length a1 : Int)) then (bif decide (v7 < (8 : Int)) then ((ix a1 v7).bind fun x14 =>
 (ix a1 v7).bind fun x15 =>
 (app 16 v6 [(Cut.mk (decide ((Int.tmod x14.e0 (2 : Int)) = (1 : Int))) (Int.tmod x15.e1 (7 : Int)))]).bind fun x16 =>
 r4 x16 (W (v7 + (1 : Int))))
 else (k1 v6))
 else (k1 v6)
def f8_4 (a1 : List A2u8N) (x1 : Layout) (k1 : (List Cut) → Option (Bool)) : Nat → (List Cut) → Int → Option (Bool)
  | 0, _, _ => none
  | n + 1, v6, v7 => f8_4b (f8_4 a1 x1 k1 n) a1 x1 k1 v6 v7
def f8 (N : Nat) (a0 : Page) (a1 : List A2u8N) : Option (Bool) :=
 (f32 N a0).bind fun x1 =>
 joinK (f8_c7 a1 N x1) fun k1 =>
 f8_4 a1 x1 k1 N [] (0 : Int)
end Go.Vc
/-
  The arguments of the laws of Cut, as data.
-/
namespace Go.Vc
set_option linter.unusedVariables false
set_option linter.unnecessarySimpa false
set_option linter.unusedSimpArgs false
abbrev tI : Ty := .int .i64
abbrev tB : Ty := .int .u8
def i64In (n : Int) : Prop := -9223372036854775808 ≤ n ∧ n ≤ 9223372036854775807
def u8In (n : Int) : Prop := 0 ≤ n ∧ n ≤ 255
theorem tI_of {ds : List D} (h : tI.has ds) : ∃ n, ds = [iN n] ∧ i64In n := by
  simp only [tI, Ty.has] at h
  obtain ⟨n, rfl, h⟩ := h
  exact ⟨n, rfl, by simpa [IntKind.min, IntKind.max, IntKind.signed, IntKind.bits, i64In] using h⟩
theorem tB_of {ds : List D} (h : tB.has ds) : ∃ n, ds = [u8N n] ∧ u8In n := by
  simp only [tB, Ty.has] at h
  obtain ⟨n, rfl, h⟩ := h
  exact ⟨n, rfl, by simpa [IntKind.min, IntKind.max, IntKind.signed, IntKind.bits, u8In] using h⟩
theorem bool_of {ds : List D} (h : Ty.bool.has ds) : ∃ b, ds = [bN b] := by
  simp only [Ty.has] at h; exact h
abbrev tLabel : Ty := .comp [tI, tI, tI, tI]
theorem Label.of {ds : List D} (h : tLabel.has ds) : ∃ x : Label, D.agg ds = x.d ∧ i64In x.X ∧ i64In x.Y ∧ i64In x.W ∧ i64In x.H := by
  simp only [tLabel, Ty.has, Ty.hasL] at h
  obtain ⟨a, b, rfl, h1, c, d, rfl, h2, e, f, rfl, h3, g, k, rfl, h4, rfl⟩ := h
  obtain ⟨x, rfl, p1⟩ := tI_of (by simpa only [tI, Ty.has] using h1)
  obtain ⟨y, rfl, p2⟩ := tI_of (by simpa only [tI, Ty.has] using h2)
  obtain ⟨z, rfl, p3⟩ := tI_of (by simpa only [tI, Ty.has] using h3)
  obtain ⟨w, rfl, p4⟩ := tI_of (by simpa only [tI, Ty.has] using h4)
  exact ⟨⟨x, y, z, w⟩, rfl, p1, p2, p3, p4⟩
abbrev tLabels : Ty := .slice tLabel true 4
theorem labels_of {ds : List D} (h : tLabels.has ds) : ∃ l, ds = [sl_Label l] := by
  obtain ⟨l, h, _, _⟩ := slice_of (fun cs hc => Label.of hc) h
  exact ⟨l, h⟩
abbrev tLayout : Ty := .comp [tI, tI, tLabels]
theorem Layout.of {x : D} (h : tLayout.hasD x) : ∃ a : Layout, x = a.d := by
  obtain ⟨cs, rfl, h⟩ := h
  simp only [Ty.hasL] at h
  obtain ⟨a, b, rfl, h1, c, d, rfl, h2, e, f, rfl, h3, rfl⟩ := h
  obtain ⟨x, rfl, p1⟩ := tI_of h1
  obtain ⟨y, rfl, p2⟩ := tI_of h2
  obtain ⟨l, rfl⟩ := labels_of h3
  exact ⟨⟨x, y, l⟩, rfl⟩
abbrev tKind : Ty := .comp [tI, tI, tI]
theorem Kind.of {ds : List D} (h : tKind.has ds) : ∃ x : Kind, D.agg ds = x.d ∧ True := by
  simp only [tKind, Ty.has, Ty.hasL] at h
  obtain ⟨a, b, rfl, h1, c, d, rfl, h2, e, f, rfl, h3, rfl⟩ := h
  obtain ⟨x, rfl, p1⟩ := tI_of (by simpa only [tI, Ty.has] using h1)
  obtain ⟨y, rfl, p2⟩ := tI_of (by simpa only [tI, Ty.has] using h2)
  obtain ⟨z, rfl, p3⟩ := tI_of (by simpa only [tI, Ty.has] using h3)
  exact ⟨⟨x, y, z⟩, rfl, trivial⟩
abbrev tKinds : Ty := .slice tKind true 3
theorem kinds_of {x : D} (h : tKinds.hasD x) : ∃ l, x = sl_Kind l := by
  obtain ⟨l, h, _, _⟩ := slice_of (fun cs hc => Kind.of hc) (hasD_slice h)
  exact ⟨l, List.head_eq_of_cons_eq h⟩
abbrev tCut : Ty := .comp [.bool, tI]
theorem Cut.of {ds : List D} (h : tCut.has ds) : ∃ x : Cut, D.agg ds = x.d ∧ True := by
  simp only [tCut, Ty.has, Ty.hasL] at h
  obtain ⟨a, b, rfl, h1, c, d, rfl, h2, rfl⟩ := h
  obtain ⟨x, rfl⟩ := h1
  obtain ⟨y, rfl, p2⟩ := tI_of (by simpa only [tI, Ty.has] using h2)
  exact ⟨⟨x, y⟩, rfl, trivial⟩
abbrev tCuts : Ty := .slice tCut true 2
theorem cuts_of {x : D} (h : tCuts.hasD x) : ∃ l, x = sl_Cut l := by
  obtain ⟨l, h, _, _⟩ := slice_of (fun cs hc => Cut.of hc) (hasD_slice h)
  exact ⟨l, List.head_eq_of_cons_eq h⟩
theorem int_of {x : D} (h : tI.hasD x) : ∃ n, x = iN n ∧ i64In n := by
  obtain ⟨n, h, p⟩ := tI_of h
  exact ⟨n, List.head_eq_of_cons_eq h, p⟩
theorem byte_of {x : D} (h : tB.hasD x) : ∃ n, x = u8N n ∧ u8In n := by
  obtain ⟨n, h, p⟩ := tB_of h
  exact ⟨n, List.head_eq_of_cons_eq h, p⟩
abbrev t4 : Ty := .comp [tB, tB, tB, tB]
def A4u8N.ok (x : A4u8N) : Prop := u8In x.e0 ∧ u8In x.e1 ∧ u8In x.e2 ∧ u8In x.e3
theorem A4.of {ds : List D} (h : t4.has ds) : ∃ x : A4u8N, D.agg ds = x.d ∧ x.ok := by
  simp only [t4, Ty.has, Ty.hasL] at h
  obtain ⟨a, b, rfl, h1, c, d, rfl, h2, e, f, rfl, h3, g, k, rfl, h4, rfl⟩ := h
  obtain ⟨x, rfl, p1⟩ := tB_of (by simpa only [tB, Ty.has] using h1)
  obtain ⟨y, rfl, p2⟩ := tB_of (by simpa only [tB, Ty.has] using h2)
  obtain ⟨z, rfl, p3⟩ := tB_of (by simpa only [tB, Ty.has] using h3)
  obtain ⟨w, rfl, p4⟩ := tB_of (by simpa only [tB, Ty.has] using h4)
  exact ⟨⟨x, y, z, w⟩, rfl, p1, p2, p3, p4⟩
theorem A4.ofD {x : D} (h : t4.hasD x) : ∃ a : A4u8N, x = a.d ∧ a.ok := by
  obtain ⟨cs, rfl, h⟩ := h
  exact A4.of (by simpa only [Ty.has] using h)
abbrev tPage : Ty := .comp [tB, tB, .slice t4 true 4]
def Page.ok (p : Page) : Prop := u8In p.W ∧ u8In p.H ∧ (∀ x, x ∈ p.Labels → x.ok) ∧ p.Labels.length ≤ maxLen
theorem Page.of {x : D} (h : tPage.hasD x) : ∃ a : Page, x = a.d ∧ a.ok := by
  obtain ⟨cs, rfl, h⟩ := h
  simp only [Ty.hasL] at h
  obtain ⟨a, b, rfl, h1, c, d, rfl, h2, e, f, rfl, h3, rfl⟩ := h
  obtain ⟨x, rfl, p1⟩ := tB_of h1
  obtain ⟨y, rfl, p2⟩ := tB_of h2
  obtain ⟨l, rfl, p4, p3⟩ := slice_of (fun cs hc => A4.of hc) h3
  exact ⟨⟨x, y, l⟩, rfl, p1, p2, p3, p4⟩
abbrev t2 : Ty := .comp [tB, tB]
def A2u8N.ok (x : A2u8N) : Prop := u8In x.e0 ∧ u8In x.e1
theorem A2.of {ds : List D} (h : t2.has ds) : ∃ x : A2u8N, D.agg ds = x.d ∧ x.ok := by
  simp only [t2, Ty.has, Ty.hasL] at h
  obtain ⟨a, b, rfl, h1, c, d, rfl, h2, rfl⟩ := h
  obtain ⟨x, rfl, p1⟩ := tB_of (by simpa only [tB, Ty.has] using h1)
  obtain ⟨y, rfl, p2⟩ := tB_of (by simpa only [tB, Ty.has] using h2)
  exact ⟨⟨x, y⟩, rfl, p1, p2⟩
theorem A2.ofD {x : D} (h : t2.hasD x) : ∃ a : A2u8N, x = a.d ∧ a.ok := by
  obtain ⟨cs, rfl, h⟩ := h
  exact A2.of (by simpa only [Ty.has] using h)
theorem A2.list {x : D} (h : (Ty.slice t2 true 2).hasD x) : ∃ l, x = sl_A2u8N l ∧ ∀ y, y ∈ l → y.ok := by
  obtain ⟨l, h, _, p⟩ := slice_of (fun cs hc => A2.of hc) (hasD_slice h)
  exact ⟨l, List.head_eq_of_cons_eq h, p⟩
abbrev t3 : Ty := .comp [tB, tB, tB]
def A3u8N.ok (x : A3u8N) : Prop := u8In x.e0 ∧ u8In x.e1 ∧ u8In x.e2
theorem A3.of {ds : List D} (h : t3.has ds) : ∃ x : A3u8N, D.agg ds = x.d ∧ x.ok := by
  simp only [t3, Ty.has, Ty.hasL] at h
  obtain ⟨a, b, rfl, h1, c, d, rfl, h2, e, f, rfl, h3, rfl⟩ := h
  obtain ⟨x, rfl, p1⟩ := tB_of (by simpa only [tB, Ty.has] using h1)
  obtain ⟨y, rfl, p2⟩ := tB_of (by simpa only [tB, Ty.has] using h2)
  obtain ⟨z, rfl, p3⟩ := tB_of (by simpa only [tB, Ty.has] using h3)
  exact ⟨⟨x, y, z⟩, rfl, p1, p2, p3⟩
theorem A3.ofD {x : D} (h : t3.hasD x) : ∃ a : A3u8N, x = a.d ∧ a.ok := by
  obtain ⟨cs, rfl, h⟩ := h
  exact A3.of (by simpa only [Ty.has] using h)
theorem A3.list {x : D} (h : (Ty.slice t3 true 3).hasD x) : ∃ l, x = sl_A3u8N l ∧ ∀ y, y ∈ l → y.ok := by
  obtain ⟨l, h, _, p⟩ := slice_of (fun cs hc => A3.of hc) (hasD_slice h)
  exact ⟨l, List.head_eq_of_cons_eq h, p⟩
end Go.Vc
/-
  PLAIN LAWS OF CUT, 14: pages by numbers; the statements CutVerified, CutAny, CutApart.
-/
namespace Go.Vc
set_option linter.unusedVariables false
set_option linter.unnecessarySimpa false
set_option linter.unusedSimpArgs false
set_option linter.unusedSimpArgs false

/-- a layout by numbers -/
structure MadeOK (L : Layout) : Prop where
  w : 1 ≤ L.W ∧ L.W ≤ 6
  h : 1 ≤ L.H ∧ L.H ≤ 6
  len : L.Labels.length ≤ 7
  fits : ∀ x, x ∈ L.Labels → Fits (sheetOf L) x
  apart : L.Labels.Pairwise Apart2
theorem MadeOK.check {L : Layout} (h : MadeOK L) : checkS L = 0 := check_valid ⟨h.w.1, by have := h.w.2; omega⟩ ⟨h.h.1, by have := h.h.2; omega⟩ (by have := h.len; omega) h.fits h.apart
theorem tmod_in0 {n m : Int} (h : 0 ≤ n) (hm : 1 ≤ m) : 0 ≤ n.tmod m ∧ n.tmod m < m := by
  obtain ⟨a, rfl⟩ : ∃ a : Nat, n = (a : Int) := ⟨n.toNat, by omega⟩
  obtain ⟨b, rfl⟩ : ∃ b : Nat, m = (b : Int) := ⟨m.toNat, by omega⟩
  have : (a : Int).tmod (b : Int) = ((a % b : Nat) : Int) := rfl
  rw [this]
  have := Nat.mod_lt a (show 0 < b by omega)
  omega
theorem f32_made {N : Nat} {p : Page} (hp : p.ok) (hN : 30 + p.Labels.length < N) : ∃ L, f32 N p = some L ∧ MadeOK L := by
  obtain ⟨hW, hH, hL, hmax⟩ := hp
  have hmax : p.Labels.length ≤ 9223372036854775807 := hmax
  have mw := tmod_in0 (n := p.W) (m := 6) hW.1 (by omega)
  have mh := tmod_in0 (n := p.H) (m := 6) hH.1 (by omega)
  have eW : W ((1 : Int) + p.W.tmod 6) = 1 + p.W.tmod 6 := W_in (by omega) (by omega)
  have eH : W ((1 : Int) + p.H.tmod 6) = 1 + p.H.tmod 6 := W_in (by omega) (by omega)
  generalize hw : (1 : Int) + p.W.tmod 6 = w at eW
  generalize hh : (1 : Int) + p.H.tmod 6 = h at eH
  have w1 : 1 ≤ w ∧ w ≤ 6 := by omega
  have h1 : 1 ≤ h ∧ h ≤ 6 := by omega
  have hsm : Small (⟨0, 0, w, h⟩ : Label) := ⟨Int.le_refl _, Int.le_refl _, by show 0 + w ≤ 12; omega, by show 0 + h ≤ 12; omega, by show 0 ≤ w; omega, by show 0 ≤ h; omega⟩
  have := loopI (F := fun n (l : List Label) j => f32_3 p N (f32_c17 p) n j l) p.Labels.length (fun _ l => l.length ≤ 7 ∧ (∀ x, x ∈ l → Fits ⟨0, 0, w, h⟩ x) ∧ l.Pairwise Apart2) (fun L => MadeOK L)
    (fun n l i hI hi => by
      obtain ⟨hl, hf, ha⟩ := hI
      have hx : p.Labels[i]? = some p.Labels[i] := by simp [hi]
      have hok := hL p.Labels[i] (List.getElem_mem hi)
      generalize p.Labels[i] = x at hx hok
      obtain ⟨o0, o1, o2, o3⟩ := hok
      have m0 := tmod_in0 (n := x.e0) (m := w) o0.1 w1.1
      have m1 := tmod_in0 (n := x.e1) (m := h) o1.1 h1.1
      have m2 := tmod_in0 (n := x.e2) (m := w - x.e0.tmod w) o2.1 (by omega)
      have m3 := tmod_in0 (n := x.e3) (m := h - x.e1.tmod h) o3.1 (by omega)
      have e2 : W (w - x.e0.tmod w) = w - x.e0.tmod w := W_in (by omega) (by omega)
      have e3 : W (h - x.e1.tmod h) = h - x.e1.tmod h := W_in (by omega) (by omega)
      have e4 : W ((1 : Int) + x.e2.tmod (w - x.e0.tmod w)) = 1 + x.e2.tmod (w - x.e0.tmod w) := W_in (by omega) (by omega)
      have e5 : W ((1 : Int) + x.e3.tmod (h - x.e1.tmod h)) = 1 + x.e3.tmod (h - x.e1.tmod h) := W_in (by omega) (by omega)
      by_cases h7 : l.length = 7
      · left
        refine ⟨⟨w, h, l⟩, ?_, ⟨w1, h1, by omega, hf, ha⟩⟩
        simp only [f32_3, f32_3b, decide_eq_true (show (i : Int) < (p.Labels.length : Int) by omega), cond_true, joinK, ix_nat, hx, Option.bind_some, decide_eq_true (show (l.length : Int) = 7 by omega), f32_c17, hw, hh, eW, eH]
      · right
        let y : Label := ⟨x.e0.tmod w, x.e1.tmod h, 1 + x.e2.tmod (w - x.e0.tmod w), 1 + x.e3.tmod (h - x.e1.tmod h)⟩
        have fy : Fits ⟨0, 0, w, h⟩ y := ⟨by show 1 ≤ 1 + _; omega, by show 1 ≤ 1 + _; omega, by show 0 ≤ x.e0.tmod w; omega, by show 0 ≤ x.e1.tmod h; omega, by show x.e0.tmod w + (1 + x.e2.tmod (w - x.e0.tmod w)) ≤ 0 + w; omega, by show x.e1.tmod h + (1 + x.e3.tmod (h - x.e1.tmod h)) ≤ 0 + h; omega⟩
        -- the inner loop: is it free
        have inn : ∀ (k2 : Bool → Option Layout), ∃ b : Bool, (b = true → ∀ z, z ∈ l → Apart2 y z) ∧ f32_10 p N (i : Int) l x k2 N true (0 : Int) = k2 b := by
          intro k2
          obtain ⟨b, g1, g2⟩ := loopE (F := fun m (b : Bool) j => f32_10 p N (i : Int) l x k2 m b j) (k := k2) 0 l.length (fun j b => b = true → ∀ z, z ∈ l.take j → Apart2 y z)
            (fun m b j _ hj hI => by
              have hz : l[j]? = some l[j] := by simp [hj]
              have hzf := hf l[j] (List.getElem_mem hj)
              generalize l[j] = z at hz hzf
              have ht : l.take (j + 1) = l.take j ++ [z] := by rw [List.take_add_one, hz]; rfl
              cases b with
              | false =>
                refine ⟨false, fun h => (by cases h), ?_⟩
                simp only [f32_10, f32_10b, decide_eq_true (show (j : Int) < (l.length : Int) by omega), cond_true, ix_nat, hz, Option.bind_some, cond_false, W_nat (show j < 9223372036854775807 by omega)]
              | true =>
                have q1 := hzf.w; have q2 := hzf.h
                have q3 : 0 ≤ z.X := hzf.x0
                have q4 : 0 ≤ z.Y := hzf.y0
                have q5 : z.X + z.W ≤ 0 + w := hzf.x1
                have q6 : z.Y + z.H ≤ 0 + h := hzf.y1
                obtain ⟨b', r1, r2⟩ := f35_eq (N := N) (x := y) (y := z) ⟨_, hsm, fy⟩ ⟨q3, q4, by omega, by omega, q1, q2⟩ (by omega)
                refine ⟨!b', fun hb => ?_, ?_⟩
                · intro z' hz'
                  rw [ht, List.mem_append] at hz'
                  rcases hz' with hz' | hz'
                  · exact hI rfl z' hz'
                  · simp at hz'; subst hz'
                    refine Classical.byContradiction fun hn => ?_
                    rw [r2.2 hn] at hb; cases hb
                · simp only [f32_10, f32_10b, decide_eq_true (show (j : Int) < (l.length : Int) by omega), cond_true, ix_nat, hz, Option.bind_some, hw, hh, eW, eH, e2, e3, e4, e5, W_nat (show j < 9223372036854775807 by omega)]
                  have r1' : f35 N ⟨x.e0.tmod w, x.e1.tmod h, 1 + x.e2.tmod (w - x.e0.tmod w), 1 + x.e3.tmod (h - x.e1.tmod h)⟩ z = some b' := r1
                  rw [r1']; rfl)
            (fun m b => by simp only [f32_10, f32_10b, decide_eq_false (show ¬ (l.length : Int) < (l.length : Int) by omega), cond_false]) N true (fun _ z hz => by simp at hz) (Nat.zero_le _) (by omega)
          rw [List.take_length] at g1
          exact ⟨b, g1, g2⟩
        have c0 : chk (decide (w ≠ 0)) = some () := by rw [decide_eq_true (show w ≠ 0 by omega)]; rfl
        have c1 : chk (decide (h ≠ 0)) = some () := by rw [decide_eq_true (show h ≠ 0 by omega)]; rfl
        have c2 : chk (decide (w - x.e0.tmod w ≠ 0)) = some () := by rw [decide_eq_true (show w - x.e0.tmod w ≠ 0 by omega)]; rfl
        have c3 : chk (decide (h - x.e1.tmod h ≠ 0)) = some () := by rw [decide_eq_true (show h - x.e1.tmod h ≠ 0 by omega)]; rfl
        obtain ⟨b, hb, hrun⟩ := inn (f32_c14 p (i : Int) l (f32_c16 p (i : Int) (f32_3 p N (f32_c17 p) n)) x)
        have red : f32_3 p N (f32_c17 p) (n + 1) (i : Int) l = f32_c14 p (i : Int) l (f32_c16 p (i : Int) (f32_3 p N (f32_c17 p) n)) x b := by
          rw [← hrun]
          simp only [f32_3, f32_3b, decide_eq_true (show (i : Int) < (p.Labels.length : Int) by omega), cond_true, joinK, ix_nat, hx, Option.bind_some, decide_eq_false (show ¬ (l.length : Int) = 7 by omega), cond_false, hw, hh, eW, eH, e2, e3, c0, c1, c2, c3]
        cases b with
        | false =>
          refine ⟨l, ⟨hl, hf, ha⟩, ?_⟩
          rw [red]
          simp only [f32_c14, cond_false, f32_c16, W_nat (show i < 9223372036854775807 by omega)]
        | true =>
          refine ⟨l ++ [y], ⟨by simp; omega, fun z hz => ?_, ?_⟩, ?_⟩
          · rcases List.mem_append.1 hz with hz | hz
            · exact hf z hz
            · simp at hz; subst hz; exact fy
          · rw [List.pairwise_append]
            exact ⟨ha, by simp, fun z hz z' hz' => by simp at hz'; subst hz'; exact (hb rfl z hz).symm⟩
          · rw [red]
            simp only [f32_c14, cond_true, hw, hh, eW, eH, e2, e3, e4, e5]
            rw [app_ok (by simp; omega) (by simp; omega)]
            simp only [Option.bind_some, f32_c16, W_nat (show i < 9223372036854775807 by omega)]
            rfl)
    (fun n l hI => by
      obtain ⟨hl, hf, ha⟩ := hI
      refine ⟨⟨w, h, l⟩, ?_, ⟨w1, h1, hl, hf, ha⟩⟩
      simp only [f32_3, f32_3b, decide_eq_false (show ¬ (p.Labels.length : Int) < (p.Labels.length : Int) by omega), cond_false, f32_c17, hw, hh, eW, eH])
    N [] 0 ⟨Nat.zero_le _, fun x hx => (by cases hx), List.Pairwise.nil⟩ (Nat.zero_le _) (by omega)
  exact this
end Go.Vc
/-
  PLAIN LAWS OF CUT, 15: the statements CutVerified and CutAny.
-/
namespace Go.Vc
set_option linter.unusedVariables false
set_option linter.unnecessarySimpa false
set_option linter.unusedSimpArgs false
set_option linter.unusedSimpArgs false

theorem verR_err : ∀ (m : Nat) (p : Label) (l : List Label) (pl : List Cut) (e : Int), verR m p l pl = .err e → e = 22 ∨ e = 13
  | 0, _, _, _, _, h => by cases h
  | m + 1, p, l, pl, e, h => by
    simp only [verR] at h
    by_cases h2 : l.length < 2
    · rw [if_pos h2] at h; cases h
    · rw [if_neg h2] at h
      cases pl with
      | nil => cases h; exact .inl rfl
      | cons c r =>
        simp only at h
        cases hc : isCut p l c with
        | false => rw [hc] at h; cases h; exact .inr rfl
        | true =>
          rw [hc, cond_true] at h
          cases hA : verR m (half1 p c) (l.filter (before c)) r with
          | err e' => rw [hA] at h; cases h; exact verR_err m _ _ _ _ hA
          | left r' => rw [hA] at h; exact verR_err m _ _ _ _ h
theorem f8_c11_true {N : Nat} {L : Layout} {pl : List Cut} (hm : MadeOK L) (hpl : pl.length ≤ 30) (hN : 100 < N) (hw : f13 N = some true) : f8_c11 N L pl = some true := by
  have V := valid_of hm.check
  have h7 := hm.len
  unfold f8_c11
  rw [f34_eq L.Labels.length N (sheetOf L) L.Labels pl ⟨V.small, V.fits⟩ (Nat.le_refl _) (by omega) (by omega) (by omega)]
  simp only [Option.bind_some, f25_eq (N := N) (show L.Labels.length ≤ 30 by omega) hpl (by omega)]
  have hv : verS L pl = verE (verR L.Labels.length (sheetOf L) L.Labels pl) := by unfold verS; rw [if_pos hm.check]
  rw [hv]
  cases hr : verR L.Labels.length (sheetOf L) L.Labels pl with
  | err e =>
    rcases verR_err _ _ _ _ _ hr with rfl | rfl <;> simp [follR, verE, hw]
  | left r =>
    cases r with
    | nil => simp [follR, verE, hw]
    | cons c r =>
      rw [show verE (.left (c :: r)) = 21 from rfl, show follR (.left (c :: r)) = (c :: r, true) from rfl]
      simp only [cond_true]
      rw [decide_eq_false (show ¬ ((c :: r).length : Int) = 0 by simp only [List.length_cons]; omega), decide_eq_true (show 0 < ((c :: r).length : Int) by simp only [List.length_cons]; omega), hw]
      rfl
theorem f8_true (p : Page) (a1 : List A2u8N) (hp : p.ok) (ha : ∀ x, x ∈ a1 → x.ok) (N : Nat) (hN : 100 + p.Labels.length < N) (hw : f13 N = some true) : f8 N p a1 = some true := by
  obtain ⟨L, hL, hm⟩ := f32_made hp (N := N) (by omega)
  have h7 := hm.len
  unfold f8
  rw [hL]
  simp only [Option.bind_some, joinK]
  have k1 : ∀ v6 : List Cut, v6.length ≤ 8 → f8_c7 a1 N L v6 = some true := by
    intro v6 hv
    unfold f8_c7
    simp only [joinK, f22_eq (N := N) (show L.Labels.length ≤ 30 by omega) (by omega), Option.bind_some]
    have k0 : ∀ pl : List Cut, pl.length ≤ 30 → f8_c11 N L pl = some true := fun pl h => f8_c11_true hm h (by omega) hw
    by_cases c : (planA L).2 = 0
    · rw [decide_eq_true c, cond_true]
      by_cases c2 : 0 < (a1.length : Int)
      · rw [decide_eq_true c2, cond_true]
        have hx : a1[0]? = some (a1[0]'(by omega)) := List.getElem?_eq_getElem _
        have hok := ha (a1[0]'(by omega)) (List.getElem_mem _)
        generalize (a1[0]'(by omega)) = x at hx hok
        have hi : ix a1 (0 : Int) = some x := by rw [show (0 : Int) = ((0 : Nat) : Int) from rfl, ix_nat]; exact hx
        have hpl := plan_len (L := L)
        have e1 : W (((planA L).1.length : Int) + (1 : Int)) = ((planA L).1.length : Int) + 1 := W_in (by omega) (by omega)
        obtain ⟨⟨q1, q2⟩, q3, q4⟩ := hok
        have hdiv : 0 ≤ x.e0.tdiv 2 ∧ x.e0.tdiv 2 ≤ 255 := by
          obtain ⟨a, ha'⟩ : ∃ a : Nat, x.e0 = (a : Int) := ⟨x.e0.toNat, by omega⟩
          rw [ha', show (a : Int).tdiv 2 = ((a / 2 : Nat) : Int) from rfl]; omega
        have e2 : W (x.e0.tdiv 2) = x.e0.tdiv 2 := W_in (by omega) (by omega)
        have mm := tmod_in0 (n := x.e0.tdiv 2) (m := ((planA L).1.length : Int) + 1) hdiv.1 (by omega)
        have m3 := tmod_in0 (n := x.e1) (m := 3) q3 (by omega)
        simp only [hi, Option.bind_some, e1, e2]
        rw [decide_eq_true (show ((planA L).1.length : Int) + 1 ≠ 0 by omega)]
        generalize (x.e0.tdiv 2).tmod (((planA L).1.length : Int) + 1) = k at mm
        generalize x.e1.tmod 3 = j at m3
        obtain ⟨k, rfl⟩ : ∃ a : Nat, k = (a : Int) := ⟨k.toNat, by omega⟩
        obtain ⟨j', hj'⟩ : ∃ a : Nat, min (v6.length : Int) j = (a : Int) := ⟨(min (v6.length : Int) j).toNat, by omega⟩
        rw [show (chk true) = some () from rfl]
        simp only [Option.bind_some]
        rw [show sub (planA L).1 0 (k : Int) = some ((planA L).1.take k) from (sub_nat (a := 0) (by omega) (by omega)).trans (by simp)]
        simp only [Option.bind_some]
        rw [app_ok (by simp; omega) (by simp; omega)]
        simp only [Option.bind_some, hj', List.nil_append]
        rw [show sub v6 0 (j' : Int) = some (v6.take j') from (sub_nat (a := 0) (by omega) (by omega)).trans (by simp)]
        simp only [Option.bind_some]
        have l1 : ((planA L).1.take k).length ≤ 10 := by
          have hv := valid_of hm.check
          have hp := f58_eq (N := 31) hv (by omega)
          have : (planA L).1.length ≤ 10 := by
            unfold planA
            rw [if_pos hm.check]
            cases hq : (planS L).2 with
            | none => rw [hq] at hp; have := hp.2; show (planS L).1.length ≤ 10; omega
            | some q => exact Nat.zero_le _
          simp; omega
        rw [app_ok (by simp at l1 ⊢; omega) (by simp at l1 ⊢; omega)]
        simp only [Option.bind_some]
        exact k0 _ (by rw [List.length_append]; simp only [List.length_take] at l1 ⊢; omega)
      · rw [decide_eq_false c2, cond_false]; exact k0 v6 (by omega)
    · rw [decide_eq_false c, cond_false]; exact k0 v6 (by omega)
  obtain ⟨s, h1, h2⟩ := loopE (F := fun n (s : List Cut) j => f8_4 a1 L (f8_c7 a1 N L) n s j) (k := f8_c7 a1 N L) 0 (min 8 a1.length) (fun i s => s.length ≤ i)
    (fun n s i _ hi hI => by
      have hx : a1[i]? = some (a1[i]'(by omega)) := List.getElem?_eq_getElem _
      generalize (a1[i]'(by omega)) = x at hx
      refine ⟨s ++ [⟨decide ((Int.tmod x.e0 2) = 1), Int.tmod x.e1 7⟩], by simp; omega, ?_⟩
      simp only [f8_4, f8_4b, decide_eq_true (show (i : Int) < (a1.length : Int) by omega), cond_true, decide_eq_true (show (i : Int) < 8 by omega), ix_nat, hx, Option.bind_some]
      rw [app_ok (by simp; omega) (by simp; omega)]
      simp only [Option.bind_some, W_nat (show i < 9223372036854775807 by omega)])
    (fun n s => by
      simp only [f8_4, f8_4b]
      by_cases c : ((min 8 a1.length : Nat) : Int) < (a1.length : Int)
      · rw [decide_eq_true c, cond_true, decide_eq_false (show ¬ ((min 8 a1.length : Nat) : Int) < 8 by omega), cond_false]
      · rw [decide_eq_false c, cond_false])
    N [] (Nat.le_refl _) (Nat.zero_le _) (by omega)
  refine Eq.trans h2 (k1 s (by omega))

/-! CutAny -/
theorem sub_valid {L : Layout} (hm : MadeOK L) (f : Label → Bool) : MadeOK ⟨L.W, L.H, L.Labels.filter f⟩ :=
  ⟨hm.w, hm.h, Nat.le_trans (List.length_filter_le _ _) hm.len, fun x hx => hm.fits x (List.mem_filter.1 hx).1, hm.apart.filter _⟩
theorem plan_zero {L : Layout} (hm : MadeOK L) : (planA L).2 = 0 ↔ Sep L.Labels := by
  have V := valid_of hm.check
  unfold planA
  rw [if_pos hm.check]
  have hs : (planS L).2 = none ↔ Sep L.Labels := sep_iff (m := L.Labels.length) (p := sheetOf L) (l := L.Labels) ⟨V.small, V.fits⟩ (Nat.le_refl _)
  cases hq : (planS L).2 with
  | none => exact ⟨fun _ => hs.1 hq, fun _ => rfl⟩
  | some q =>
    refine ⟨fun h => (by cases h), fun h => ?_⟩
    have := hs.2 h
    rw [hq] at this; cases this
theorem drop_lineCuts {up : Bool} {p : Label} {l : List Label} {v : Nat} (hv : v < 12) : ((List.range' v (12 - v)).filter fun i : Nat => isCut p l ⟨up, (i : Int)⟩) = (bif isCut p l ⟨up, (v : Int)⟩ then [v] else []) ++ ((List.range' (v + 1) (12 - (v + 1))).filter fun i : Nat => isCut p l ⟨up, (i : Int)⟩) := by
  rw [show 12 - v = (12 - (v + 1)) + 1 by omega, List.range'_succ, List.filter_cons]
  cases isCut p l ⟨up, (v : Int)⟩ <;> rfl
end Go.Vc
/-
  PLAIN LAWS OF CUT, 16: the statements CutAny and CutApart.
-/
namespace Go.Vc
set_option linter.unusedVariables false
set_option linter.unnecessarySimpa false
set_option linter.unusedSimpArgs false
set_option linter.unusedSimpArgs false

theorem f7_c17_eq {N : Nat} {L : Layout} {can : Bool} {x3 : List Cut × Int} {v33 : Int} {up : Bool} {k v : Nat} {r11 : Int → Int → Option Bool} (hm : MadeOK L) (hcan : can = true ↔ Sep L.Labels) (his : (splitS L.Labels ⟨up, (v : Int)⟩).2.2 = true) (hN : 100 < N) (hk : k ≤ 100) (hv : v ≤ 100) :
    f7_c17 N L can x3 v33 up (k : Int) (v : Int) r11 (splitS L.Labels ⟨up, (v : Int)⟩) = r11 ((k + 1 : Nat) : Int) ((v + 1 : Nat) : Int) := by
  have h7 := hm.len
  obtain ⟨p1, p2⟩ := splitS_parts his
  obtain ⟨l1, l2⟩ := split_lens his
  have hs := Sep.of_split his
  have m1 := sub_valid hm (before ⟨up, (v : Int)⟩)
  have m2 := sub_valid hm (fun x => !before ⟨up, (v : Int)⟩ x)
  have z1 := plan_zero m1
  have z2 := plan_zero m2
  have V1 := (valid_of m1.check).laid
  have V2 := (valid_of m2.check).laid
  obtain ⟨b1, e1, q1⟩ := f33_eq _ N _ V1 (Nat.le_refl _) (by have := m1.len; omega) (by have := m1.len; omega)
  obtain ⟨b2, e2, q2⟩ := f33_eq _ N _ V2 (Nat.le_refl _) (by have := m2.len; omega) (by have := m2.len; omega)
  simp only at z1 z2 e1 e2 q1 q2
  unfold f7_c17
  rw [his, p1, p2]
  simp only [Bool.not_true, cond_false, f22_eq (N := N) (L := ⟨L.W, L.H, L.Labels.filter (before ⟨up, (v : Int)⟩)⟩) (by have := m1.len; simp only at this ⊢; omega) (by omega), f22_eq (N := N) (L := ⟨L.W, L.H, L.Labels.filter (fun x => !before ⟨up, (v : Int)⟩ x)⟩) (by have := m2.len; simp only at this ⊢; omega) (by omega), Option.bind_some, e1, e2, W_nat (show k < 9223372036854775807 by omega), W_nat (show v < 9223372036854775807 by omega)]
  have c1 : decide ((planA ⟨L.W, L.H, L.Labels.filter (before ⟨up, (v : Int)⟩)⟩).2 = 0) = b1 := by
    rw [Bool.eq_iff_iff, decide_eq_true_iff, z1, q1]
  have c2 : decide ((planA ⟨L.W, L.H, L.Labels.filter (fun x => !before ⟨up, (v : Int)⟩ x)⟩).2 = 0) = b2 := by
    rw [Bool.eq_iff_iff, decide_eq_true_iff, z2, q2]
  have c3 : can = (b1 && b2) := by
    rw [Bool.eq_iff_iff, hcan, hs, Bool.and_eq_true, q1, q2]
  rw [c1, c2, c3]
  cases b1 <;> cases b2 <;> rfl
theorem f7_inner {N : Nat} {L : Layout} {can : Bool} {x3 : List Cut × Int} {v33 : Int} {up : Bool} {k1 : Int → Option Bool} (hm : MadeOK L) (hcan : can = true ↔ Sep L.Labels) (hN : 100 < N) (hx3 : x3.1.length ≤ 24) (tail : List Cut) (ht : ∀ c, c ∈ tail → c.Up ≠ up) (k : Nat) (hk : k ≤ x3.1.length) (h0 : x3.1.drop k = lineCuts up (sheetOf L) L.Labels ++ tail) :
    ∃ k' : Nat, k' ≤ x3.1.length ∧ x3.1.drop k' = tail ∧ f7_11 N L can x3 v33 k1 up N (k : Int) (0 : Int) = k1 (k' : Int) := by
  have V := valid_of hm.check
  have hp : Pc (sheetOf L) L.Labels := ⟨V.small, V.fits⟩
  have h7 := hm.len
  obtain ⟨k', ⟨g1, g2⟩, g3⟩ := loopE (F := fun n (k : Nat) j => f7_11 N L can x3 v33 k1 up n (k : Int) j) (k := fun k : Nat => k1 (k : Int)) 0 13
    (fun v (k : Nat) => k ≤ x3.1.length ∧ x3.1.drop k = ((List.range' v (12 - v)).filter fun i : Nat => isCut (sheetOf L) L.Labels ⟨up, (i : Int)⟩).map (fun i : Nat => (⟨up, (i : Int)⟩ : Cut)) ++ tail)
    (fun n k v _ hv hI => by
      obtain ⟨hk, hd⟩ := hI
      have red : f7_11 N L can x3 v33 k1 up (n + 1) (k : Int) (v : Int) = (bif decide ((k : Int) < (x3.1.length : Int)) then ((ix x3.1 (k : Int)).bind fun x13 =>
          bif !((splitS L.Labels ⟨up, (v : Int)⟩).2.2 == ((x13.Up == up) && (decide (x13.At = (v : Int)) && true))) then (some (false)) else f7_c17 N L can x3 v33 up (k : Int) (v : Int) (f7_11 N L can x3 v33 k1 up n) (splitS L.Labels ⟨up, (v : Int)⟩))
          else (bif !((splitS L.Labels ⟨up, (v : Int)⟩).2.2 == false) then (some (false)) else f7_c17 N L can x3 v33 up (k : Int) (v : Int) (f7_11 N L can x3 v33 k1 up n) (splitS L.Labels ⟨up, (v : Int)⟩))) := by
        simp only [f7_11, f7_11b, decide_eq_true (show (v : Int) < 13 by omega), cond_true, f36_eq (c := ⟨up, (v : Int)⟩) hp.laid (show L.Labels.length ≤ 30 by omega) (show 30 < N by omega), Option.bind_some, joinK]
      rw [red]
      have hrest : ∃ rest : List Cut, (∀ c, c ∈ rest → c ≠ ⟨up, (v : Int)⟩) ∧ rest = ((List.range' (v + 1) (12 - (v + 1))).filter fun i : Nat => isCut (sheetOf L) L.Labels ⟨up, (i : Int)⟩).map (fun i : Nat => (⟨up, (i : Int)⟩ : Cut)) ++ tail ∧ x3.1.drop k = (bif (splitS L.Labels ⟨up, (v : Int)⟩).2.2 then [⟨up, (v : Int)⟩] else []) ++ rest := by
        refine ⟨_, ?_, rfl, ?_⟩
        · intro c hc
          rcases List.mem_append.1 hc with hc | hc
          · obtain ⟨i, hi, rfl⟩ := List.mem_map.1 hc
            have := List.mem_range'_1.1 (List.mem_filter.1 hi).1
            intro he
            have := congrArg Cut.At he
            simp only at this; omega
          · intro he
            exact ht c hc (by rw [he])
        · rw [hd, ← isCut_split hp]
          by_cases h12 : v < 12
          · rw [drop_lineCuts h12, List.map_append, List.append_assoc]
            cases isCut (sheetOf L) L.Labels ⟨up, (v : Int)⟩ <;> rfl
          · have : v = 12 := by omega
            subst this
            rw [isCut_12 V.small]; rfl
      obtain ⟨rest, r1, r2, r3⟩ := hrest
      cases his : (splitS L.Labels ⟨up, (v : Int)⟩).2.2 with
      | true =>
        rw [his, cond_true] at r3
        have hlt : k < x3.1.length := by
          have := congrArg List.length r3
          simp at this; omega
        have hget : x3.1[k]? = some ⟨up, (v : Int)⟩ := by
          have : (x3.1.drop k)[0]? = some ⟨up, (v : Int)⟩ := by rw [r3]; rfl
          simpa using this
        refine ⟨k + 1, ⟨by omega, ?_⟩, ?_⟩
        · rw [← r2, ← List.drop_drop, r3]; rfl
        · rw [decide_eq_true (show (k : Int) < (x3.1.length : Int) by omega), cond_true, ix_nat, hget]
          simp only [Option.bind_some, beq_self_eq_true, decide_true, Bool.and_self, Bool.not_true, cond_false]
          exact f7_c17_eq hm hcan his hN (by omega) (by omega)
      | false =>
        rw [his, cond_false, List.nil_append] at r3
        have hgo : f7_c17 N L can x3 v33 up (k : Int) (v : Int) (f7_11 N L can x3 v33 k1 up n) (splitS L.Labels ⟨up, (v : Int)⟩) = f7_11 N L can x3 v33 k1 up n (k : Int) ((v + 1 : Nat) : Int) := by
          unfold f7_c17
          rw [his, W_nat (show v < 9223372036854775807 by omega)]; rfl
        refine ⟨k, ⟨hk, by rw [r3, r2]⟩, ?_⟩
        rw [hgo]
        by_cases hlt : k < x3.1.length
        · have hget : x3.1[k]? = some x3.1[k] := by simp [hlt]
          have hne : x3.1[k] ≠ ⟨up, (v : Int)⟩ := by
            refine r1 _ ?_
            rw [← r3]
            exact List.mem_drop_iff_getElem.2 ⟨0, by simpa using hlt, by simp⟩
          generalize x3.1[k] = y at hget hne
          have hb : ((y.Up == up) && (decide (y.At = (v : Int)) && true)) = false := by
            obtain ⟨u, t⟩ := y
            rw [Bool.and_true, Bool.and_eq_false_iff]
            by_cases hu : u = up
            · right
              rw [decide_eq_false_iff_not]
              intro ht
              exact hne (by simp only at ht; rw [hu, ht])
            · left; simpa using hu
          rw [decide_eq_true (show (k : Int) < (x3.1.length : Int) by omega), cond_true, ix_nat, hget]
          simp only [Option.bind_some, hb]
          rfl
        · rw [decide_eq_false (show ¬ (k : Int) < (x3.1.length : Int) by omega)]
          rfl)
    (fun n k => rfl) N k ⟨hk, h0⟩ (Nat.zero_le _) (by omega)
  exact ⟨k', g1, by simpa using g2, g3⟩
theorem f7_true (p : Page) (hp : p.ok) (N : Nat) (hN : 100 + p.Labels.length < N) (hw : f13 N = some true) : f7 N p = some true := by
  obtain ⟨L, hL, hm⟩ := f32_made hp (N := N) (by omega)
  have h7 := hm.len
  have V := valid_of hm.check
  obtain ⟨can, e1, q1⟩ := f33_eq _ N L.Labels V.laid (Nat.le_refl _) (by omega) (by omega)
  have hc : cutsS L = (cutsL (sheetOf L) L.Labels, 0) := by unfold cutsS; rw [if_pos hm.check]
  unfold f7
  rw [hL]
  simp only [Option.bind_some, e1, f15_eq (N := N) (show L.Labels.length ≤ 30 by omega) (by omega), hc, not_true_eq_false, decide_false, cond_false, joinK]
  have hlen := cutsL_len (p := sheetOf L) (l := L.Labels)
  obtain ⟨n, rfl⟩ : ∃ n, N = n + 3 := ⟨N - 3, by omega⟩
  obtain ⟨k1, a1, a2, a3⟩ := f7_inner (N := n + 3) (x3 := (cutsL (sheetOf L) L.Labels, (0 : Int))) (v33 := 0) (up := true) (k1 := f7_c23 L can (cutsL (sheetOf L) L.Labels, 0) 0 (f7_8 (n + 3) L can (cutsL (sheetOf L) L.Labels, 0) (f7_c24 (n + 3) (cutsL (sheetOf L) L.Labels, 0)) (n + 2))) hm q1 (by omega) hlen (lineCuts false (sheetOf L) L.Labels) (fun c hc => by
      obtain ⟨i, _, rfl⟩ := List.mem_map.1 hc; simp) 0 (Nat.zero_le _) rfl
  obtain ⟨k2, b1, b2, b3⟩ := f7_inner (N := n + 3) (x3 := (cutsL (sheetOf L) L.Labels, (0 : Int))) (v33 := 1) (up := false) (k1 := f7_c23 L can (cutsL (sheetOf L) L.Labels, 0) 1 (f7_8 (n + 3) L can (cutsL (sheetOf L) L.Labels, 0) (f7_c24 (n + 3) (cutsL (sheetOf L) L.Labels, 0)) (n + 1))) hm q1 (by omega) hlen [] (fun c hc => by cases hc) k1 a1 (by rw [a2, List.append_nil])
  have hk2 : k2 = (cutsL (sheetOf L) L.Labels).length := by
    have := congrArg List.length b2
    simp at this b1; omega
  show f7_11 (n + 3) L can _ 0 _ true (n + 3) ((0 : Nat) : Int) (0 : Int) = _
  refine Eq.trans a3 ?_
  show f7_11 (n + 3) L can _ 1 _ false (n + 3) (k1 : Int) (0 : Int) = _
  refine Eq.trans b3 ?_
  show f7_c24 (n + 3) _ (k2 : Int) = _
  unfold f7_c24
  rw [hk2, decide_eq_true rfl, cond_true, hw]; rfl
end Go.Vc
/-
  PLAIN LAWS OF CUT, 17: the statement CutApart.
-/
namespace Go.Vc
set_option linter.unusedVariables false
set_option linter.unnecessarySimpa false
set_option linter.unusedSimpArgs false
set_option linter.unusedSimpArgs false

/-! Three labels or less can always be cut apart. -/
structure Pos (x : Label) : Prop where
  w : 1 ≤ x.W
  h : 1 ≤ x.H
abbrev HSep (x y : Label) : Prop := x.X + x.W ≤ y.X ∨ y.X + y.W ≤ x.X
abbrev VSep (x y : Label) : Prop := x.Y + x.H ≤ y.Y ∨ y.Y + y.H ≤ x.Y
def Line (l : List Label) : Prop := ∃ c : Cut, (∀ x, x ∈ l → (before c x || behind c x) = true) ∧ (∃ x, x ∈ l ∧ before c x = true) ∧ (∃ x, x ∈ l ∧ before c x = false)
theorem Line.perm {l l' : List Label} (h : Line l) (hp : l.Perm l') : Line l' := by
  obtain ⟨c, h1, ⟨x, hx, bx⟩, y, hy, bY⟩ := h
  exact ⟨c, fun z hz => h1 z (hp.mem_iff.2 hz), ⟨x, hp.mem_iff.1 hx, bx⟩, y, hp.mem_iff.1 hy, bY⟩
theorem bUp {a : Int} {x : Label} : before ⟨true, a⟩ x = true ↔ x.X + x.W ≤ a := before_iff
theorem bUpN {a : Int} {x : Label} : before ⟨true, a⟩ x = false ↔ ¬ x.X + x.W ≤ a := before_not
theorem nUp {a : Int} {x : Label} : behind ⟨true, a⟩ x = true ↔ a ≤ x.X := behind_iff
theorem bLi {a : Int} {x : Label} : before ⟨false, a⟩ x = true ↔ x.Y + x.H ≤ a := before_iff
theorem bLiN {a : Int} {x : Label} : before ⟨false, a⟩ x = false ↔ ¬ x.Y + x.H ≤ a := before_not
theorem nLi {a : Int} {x : Label} : behind ⟨false, a⟩ x = true ↔ a ≤ x.Y := behind_iff
/-- x lies beside both others -/
theorem line_h {x y z : Label} (px : Pos x) (py : Pos y) (pz : Pos z) (h1 : HSep x y) (h2 : HSep x z) : Line [x, y, z] := by
  have x1 := px.w; have y1 := py.w; have z1 := pz.w
  rcases h1 with h1 | h1 <;> rcases h2 with h2 | h2
  · refine ⟨⟨true, x.X + x.W⟩, ?_, ⟨x, by simp, bUp.2 (by omega)⟩, y, by simp, bUpN.2 (by omega)⟩
    intro w hw
    simp only [List.mem_cons, List.not_mem_nil, or_false] at hw
    rw [Bool.or_eq_true, bUp, nUp]
    rcases hw with rfl | rfl | rfl <;> omega
  · refine ⟨⟨true, x.X⟩, ?_, ⟨z, by simp, bUp.2 (by omega)⟩, x, by simp, bUpN.2 (by omega)⟩
    intro w hw
    simp only [List.mem_cons, List.not_mem_nil, or_false] at hw
    rw [Bool.or_eq_true, bUp, nUp]
    rcases hw with rfl | rfl | rfl <;> omega
  · refine ⟨⟨true, x.X⟩, ?_, ⟨y, by simp, bUp.2 (by omega)⟩, x, by simp, bUpN.2 (by omega)⟩
    intro w hw
    simp only [List.mem_cons, List.not_mem_nil, or_false] at hw
    rw [Bool.or_eq_true, bUp, nUp]
    rcases hw with rfl | rfl | rfl <;> omega
  · refine ⟨⟨true, x.X⟩, ?_, ⟨y, by simp, bUp.2 (by omega)⟩, x, by simp, bUpN.2 (by omega)⟩
    intro w hw
    simp only [List.mem_cons, List.not_mem_nil, or_false] at hw
    rw [Bool.or_eq_true, bUp, nUp]
    rcases hw with rfl | rfl | rfl <;> omega
theorem line_v {x y z : Label} (px : Pos x) (py : Pos y) (pz : Pos z) (h1 : VSep x y) (h2 : VSep x z) : Line [x, y, z] := by
  have x1 := px.h; have y1 := py.h; have z1 := pz.h
  rcases h1 with h1 | h1 <;> rcases h2 with h2 | h2
  · refine ⟨⟨false, x.Y + x.H⟩, ?_, ⟨x, by simp, bLi.2 (by omega)⟩, y, by simp, bLiN.2 (by omega)⟩
    intro w hw
    simp only [List.mem_cons, List.not_mem_nil, or_false] at hw
    rw [Bool.or_eq_true, bLi, nLi]
    rcases hw with rfl | rfl | rfl <;> omega
  · refine ⟨⟨false, x.Y⟩, ?_, ⟨z, by simp, bLi.2 (by omega)⟩, x, by simp, bLiN.2 (by omega)⟩
    intro w hw
    simp only [List.mem_cons, List.not_mem_nil, or_false] at hw
    rw [Bool.or_eq_true, bLi, nLi]
    rcases hw with rfl | rfl | rfl <;> omega
  · refine ⟨⟨false, x.Y⟩, ?_, ⟨y, by simp, bLi.2 (by omega)⟩, x, by simp, bLiN.2 (by omega)⟩
    intro w hw
    simp only [List.mem_cons, List.not_mem_nil, or_false] at hw
    rw [Bool.or_eq_true, bLi, nLi]
    rcases hw with rfl | rfl | rfl <;> omega
  · refine ⟨⟨false, x.Y⟩, ?_, ⟨y, by simp, bLi.2 (by omega)⟩, x, by simp, bLiN.2 (by omega)⟩
    intro w hw
    simp only [List.mem_cons, List.not_mem_nil, or_false] at hw
    rw [Bool.or_eq_true, bLi, nLi]
    rcases hw with rfl | rfl | rfl <;> omega
theorem apart_hv {x y : Label} (h : Apart2 x y) : HSep x y ∨ VSep x y := by unfold Apart2 at h; omega
theorem line3 {x y z : Label} (px : Pos x) (py : Pos y) (pz : Pos z) (h1 : Apart2 x y) (h2 : Apart2 x z) (h3 : Apart2 y z) : Line [x, y, z] := by
  have p1 : [y, x, z].Perm [x, y, z] := List.Perm.swap x y [z]
  have p2 : [z, x, y].Perm [x, y, z] := (List.Perm.swap x z [y]).trans (List.Perm.cons x (List.Perm.swap y z []))
  rcases apart_hv h1 with h1 | h1 <;> rcases apart_hv h2 with h2 | h2 <;> rcases apart_hv h3 with h3 | h3
  · exact line_h px py pz h1 h2
  · exact line_h px py pz h1 h2
  · exact (line_h py px pz (by omega) h3).perm p1
  · exact (line_v pz px py (by omega) (by omega)).perm p2
  · exact (line_h pz px py (by omega) (by omega)).perm p2
  · exact (line_v py px pz (by omega) h3).perm p1
  · exact line_v px py pz h1 h2
  · exact line_v px py pz h1 h2
theorem line2 {x y : Label} (px : Pos x) (py : Pos y) (h : Apart2 x y) : Line [x, y] := by
  have x1 := px.w; have y1 := py.w; have x2 := px.h; have y2 := py.h
  unfold Apart2 at h
  rcases h with h | h | h | h
  · refine ⟨⟨true, y.X⟩, ?_, ⟨x, by simp, bUp.2 h⟩, y, by simp, bUpN.2 (by omega)⟩
    intro w hw
    simp only [List.mem_cons, List.not_mem_nil, or_false] at hw
    rw [Bool.or_eq_true, bUp, nUp]
    rcases hw with rfl | rfl <;> omega
  · refine ⟨⟨true, x.X⟩, ?_, ⟨y, by simp, bUp.2 h⟩, x, by simp, bUpN.2 (by omega)⟩
    intro w hw
    simp only [List.mem_cons, List.not_mem_nil, or_false] at hw
    rw [Bool.or_eq_true, bUp, nUp]
    rcases hw with rfl | rfl <;> omega
  · refine ⟨⟨false, y.Y⟩, ?_, ⟨x, by simp, bLi.2 h⟩, y, by simp, bLiN.2 (by omega)⟩
    intro w hw
    simp only [List.mem_cons, List.not_mem_nil, or_false] at hw
    rw [Bool.or_eq_true, bLi, nLi]
    rcases hw with rfl | rfl <;> omega
  · refine ⟨⟨false, x.Y⟩, ?_, ⟨y, by simp, bLi.2 h⟩, x, by simp, bLiN.2 (by omega)⟩
    intro w hw
    simp only [List.mem_cons, List.not_mem_nil, or_false] at hw
    rw [Bool.or_eq_true, bLi, nLi]
    rcases hw with rfl | rfl <;> omega
theorem line_of {l : List Label} (hp : ∀ x, x ∈ l → Pos x) (ha : l.Pairwise Apart2) (h2 : 2 ≤ l.length) (h3 : l.length ≤ 3) : Line l := by
  match l, h2, h3, hp, ha with
  | [x, y], _, _, hp, ha => exact line2 (hp x (by simp)) (hp y (by simp)) (by simpa using ha)
  | [x, y, z], _, _, hp, ha =>
    simp only [List.pairwise_cons, List.mem_cons, List.not_mem_nil, or_false, forall_eq_or_imp, forall_eq] at ha
    exact line3 (hp x (by simp)) (hp y (by simp)) (hp z (by simp)) ha.1.1 ha.1.2 ha.2.1
  | _ :: _ :: _ :: _ :: _, _, h3, _, _ => exact absurd h3 (by simp only [List.length_cons]; omega)
theorem sep_few : ∀ (m : Nat) (l : List Label), l.length ≤ m → l.length ≤ 3 → (∀ x, x ∈ l → Pos x) → l.Pairwise Apart2 → Sep l
  | 0, l, h, _, _, _ => .few (by omega)
  | m + 1, l, h, h3, hp, ha => by
    by_cases h2 : l.length ≤ 1
    · exact .few h2
    · obtain ⟨c, g1, ⟨x, hx, bx⟩, y, hy, bY⟩ := line_of hp ha (by omega) h3
      have e1 := List.length_pos_of_mem (List.mem_filter.2 ⟨hx, bx⟩)
      have e2 := List.length_pos_of_mem ((List.mem_filter (p := fun x => !before c x)).2 ⟨hy, by rw [bY]; rfl⟩)
      have := split_len (l := l) (before c)
      exact .cut c g1 (sep_few m _ (by omega) (by omega) (fun x hx => hp x (List.mem_filter.1 hx).1) (ha.filter _)) (sep_few m _ (by omega) (by omega) (fun x hx => hp x (List.mem_filter.1 hx).1) (ha.filter _))

/-! Where a piece that is reached lies. -/
theorem inner_in {p : Label} {c : Cut} (hc : inner c p = true) : (bif c.Up then p.X + 1 ≤ c.At ∧ c.At ≤ p.X + p.W - 1 else p.Y + 1 ≤ c.At ∧ c.At ≤ p.Y + p.H - 1) := by
  obtain ⟨up, a⟩ := c
  unfold inner at hc
  rw [Bool.and_eq_true, decide_eq_true_iff, decide_eq_true_iff] at hc
  cases up <;> exact hc
theorem half_in {p : Label} {c : Cut} (hs : Small p) (hc : inner c p = true) : (p.X ≤ (half1 p c).X ∧ p.Y ≤ (half1 p c).Y ∧ (half1 p c).X + (half1 p c).W ≤ p.X + p.W ∧ (half1 p c).Y + (half1 p c).H ≤ p.Y + p.H) ∧ (p.X ≤ (half2 p c).X ∧ p.Y ≤ (half2 p c).Y ∧ (half2 p c).X + (half2 p c).W ≤ p.X + p.W ∧ (half2 p c).Y + (half2 p c).H ≤ p.Y + p.H) := by
  have := inner_in hc
  obtain ⟨up, a⟩ := c
  cases up with
  | true =>
    have : p.X + 1 ≤ a ∧ a ≤ p.X + p.W - 1 := this
    refine ⟨⟨Int.le_refl _, Int.le_refl _, by show p.X + (a - p.X) ≤ _; omega, Int.le_refl _⟩, by show p.X ≤ a; omega, Int.le_refl _, by show a + (p.X + p.W - a) ≤ _; omega, Int.le_refl _⟩
  | false =>
    have : p.Y + 1 ≤ a ∧ a ≤ p.Y + p.H - 1 := this
    refine ⟨⟨Int.le_refl _, Int.le_refl _, Int.le_refl _, by show p.Y + (a - p.Y) ≤ _; omega⟩, Int.le_refl _, by show p.Y ≤ a; omega, Int.le_refl _, by show a + (p.Y + p.H - a) ≤ _; omega⟩
theorem apart_half {p x : Label} {c : Cut} (hs : Small p) (hc : inner c p = true) (h : Apart2 x p) : Apart2 x (half1 p c) ∧ Apart2 x (half2 p c) := by
  obtain ⟨⟨a1, a2, a3, a4⟩, b1, b2, b3, b4⟩ := half_in hs hc
  unfold Apart2 at *
  omega
theorem behind_apart1 {p x : Label} {c : Cut} (h : behind c x = true) : Apart2 x (half1 p c) := by
  rw [behind_iff] at h
  obtain ⟨up, a⟩ := c
  cases up with
  | true => have h : a ≤ x.X := h; exact .inr (.inl (by show p.X + (a - p.X) ≤ _; omega))
  | false => have h : a ≤ x.Y := h; exact .inr (.inr (.inr (by show p.Y + (a - p.Y) ≤ _; omega)))
theorem before_apart2 {p x : Label} {c : Cut} (h : before c x = true) : Apart2 x (half2 p c) := by
  rw [before_iff] at h
  obtain ⟨up, a⟩ := c
  cases up with
  | true => have h : x.X + x.W ≤ a := h; exact .inl h
  | false => have h : x.Y + x.H ≤ a := h; exact .inr (.inr (.inl h))
theorem reach_in {S : List Label} (hS : Laid S) {p q : Label} (hs : Small p) (h : Reach S p q) (hall : ∀ x, x ∈ S → insideB p x = true ∨ Apart2 x p) :
    (p.X ≤ q.X ∧ p.Y ≤ q.Y ∧ q.X + q.W ≤ p.X + p.W ∧ q.Y + q.H ≤ p.Y + p.H) ∧ ∀ x, x ∈ S → insideB q x = true ∨ Apart2 x q := by
  induction h with
  | here p => exact ⟨⟨Int.le_refl _, Int.le_refl _, Int.le_refl _, Int.le_refl _⟩, hall⟩
  | @one p q c hc h ih =>
    have hc' := mem_cutsL hc
    have hin := (isCut_parts hc').1
    obtain ⟨⟨a1, a2, a3, a4⟩, _⟩ := half_in hs hin
    obtain ⟨⟨i1, i2, i3, i4⟩, i5⟩ := ih (small_half1 hs hin) fun x hx => by
      rcases hall x hx with h | h
      · have hf := inside_fits hs (hS x hx) h
        cases hb : before c x with
        | true => exact .inl (by rw [inside_half1 hs hf hin]; exact hb)
        | false => exact .inr (behind_apart1 (behind_of hc' (List.mem_filter.2 ⟨hx, h⟩) hb))
      · exact .inr (apart_half hs hin h).1
    exact ⟨⟨by omega, by omega, by omega, by omega⟩, i5⟩
  | @two p q c hc h ih =>
    have hc' := mem_cutsL hc
    have hin := (isCut_parts hc').1
    obtain ⟨_, a1, a2, a3, a4⟩ := half_in hs hin
    obtain ⟨⟨i1, i2, i3, i4⟩, i5⟩ := ih (small_half2 hs hin) fun x hx => by
      rcases hall x hx with h | h
      · have hf := inside_fits hs (hS x hx) h
        cases hb : before c x with
        | true => exact .inr (before_apart2 hb)
        | false => exact .inl (by rw [inside_half2 hs hf hin]; exact behind_of hc' (List.mem_filter.2 ⟨hx, h⟩) hb)
      · exact .inr (apart_half hs hin h).2
    exact ⟨⟨by omega, by omega, by omega, by omega⟩, i5⟩
theorem f6_true (p : Page) (hp : p.ok) (N : Nat) (hN : 100 + p.Labels.length < N) (hw : f13 N = some true) : f6 N p = some true := by
  obtain ⟨L, hL, hm⟩ := f32_made hp (N := N) (by omega)
  have h7 := hm.len
  have V := valid_of hm.check
  have hPc : Pc (sheetOf L) L.Labels := ⟨V.small, V.fits⟩
  have hpos : ∀ x, x ∈ L.Labels → Pos x := fun x hx => ⟨(hm.fits x hx).w, (hm.fits x hx).h⟩
  obtain ⟨can, e1, q1⟩ := f33_eq _ N L.Labels V.laid (Nat.le_refl _) (by omega) (by omega)
  have hcan4 : L.Labels.length < 4 → can = true := fun h => q1.2 (sep_few _ _ (Nat.le_refl _) (by omega) hpos hm.apart)
  have hgo : f6_c7 N L can (planA L) (blockA L) = some true := by
    have hs : (planS L).2 = none ↔ Sep L.Labels := sep_iff (m := L.Labels.length) (p := sheetOf L) (l := L.Labels) hPc (Nat.le_refl _)
    have hsh := inside_sheet V
    have hplan := f58_eq (N := 31) V (by omega)
    unfold f6_c7
    cases hc : can with
    | true =>
      rw [hc] at q1
      have hq := hs.2 (q1.1 rfl)
      rw [hq] at hplan
      have a1 : planA L = ((planS L).1, 0) := by unfold planA; rw [if_pos hm.check, hq]
      have a2 : blockA L = (⟨0, 0, 0, 0⟩, 14) := by unfold blockA; rw [if_pos hm.check, hq]
      have hpl : (planS L).1.length ≤ 30 := by have := hplan.2; omega
      have hver := plan_ver L.Labels.length (sheetOf L) L.Labels [] (Nat.le_refl _) hq
      rw [List.append_nil] at hver
      have hfol : f34 N L.Labels (planS L).1 = some ([], true) := by
        rw [f34_eq L.Labels.length N (sheetOf L) L.Labels _ hPc (Nat.le_refl _) (by omega) (by omega) (by omega)]
        show some (follR (verR _ _ _ (planR _ _ _).1)) = _
        rw [hver]; rfl
      have hvs : verS L (planS L).1 = 0 := by
        unfold verS
        rw [if_pos hm.check]
        show verE (verR _ _ _ (planR _ _ _).1) = 0
        rw [hver]; rfl
      have hlen : (((planS L).1.length : Int) = max 0 (W ((L.Labels.length : Int) - 1))) := by
        have := hplan.2
        rw [W_in (by omega) (by omega)]; omega
      rw [a1, a2]
      simp only [cond_true, hfol, Option.bind_some, f25_eq (N := N) (show L.Labels.length ≤ 30 by omega) hpl (by omega), hvs, decide_true, hw]
      rw [decide_eq_true hlen]
      rfl
    | false =>
      rw [hc] at q1
      have hns : ¬ Sep L.Labels := fun h => by have := q1.2 h; cases this
      cases hq : (planS L).2 with
      | none => exact absurd (hs.1 hq) hns
      | some q =>
        have a1 : planA L = ([], 14) := by unfold planA; rw [if_pos hm.check, hq]
        have a2 : blockA L = (q, 0) := by unfold blockA; rw [if_pos hm.check, hq]
        have hq' : (planR L.Labels.length (sheetOf L) (L.Labels.filter (insideB (sheetOf L)))).2 = some q := by rw [hsh]; exact hq
        obtain ⟨r1, r2, r3, r4⟩ := plan_block V.laid L.Labels.length (sheetOf L) q V.small (by rw [hsh]; exact Nat.le_refl _) hq'
        obtain ⟨⟨i1, i2, i3, i4⟩, i5⟩ := reach_in V.laid V.small r1 fun x hx => .inl (List.mem_filter.1 (by rw [hsh]; exact hx : x ∈ L.Labels.filter (insideB (sheetOf L)))).2
        have i1 : 0 ≤ q.X := i1
        have i2 : 0 ≤ q.Y := i2
        have i3 : q.X + q.W ≤ 0 + L.W := i3
        have i4 : q.Y + q.H ≤ 0 + L.H := i4
        have hpcq := pc_inside V.laid r2
        obtain ⟨x0, hx0⟩ := List.exists_mem_of_length_pos (show 0 < (L.Labels.filter (insideB q)).length by omega)
        have fx0 := hpcq.fits x0 hx0
        have f1 := fx0.w; have f2 := fx0.h; have f3 := fx0.x0; have f4 := fx0.y0; have f5 := fx0.x1; have f6 := fx0.y1
        have hw6 := hm.w; have hh6 := hm.h
        -- no line divides them
        have hno : ∀ c : Cut, (splitS (L.Labels.filter (insideB q)) c).2.2 = false := by
          intro c
          cases h : (splitS (L.Labels.filter (insideB q)) c).2.2 with
          | false => rfl
          | true =>
            rw [← isCut_split hpcq] at h
            have := cut_mem r2 h
            rw [r4] at this; cases this
        have h4 : 3 < (L.Labels.filter (insideB q)).length := by
          refine Classical.byContradiction fun hn => ?_
          obtain ⟨c, g1, g2, g3⟩ := line_of (fun x hx => hpos x (List.mem_filter.1 hx).1) (hm.apart.filter (insideB q)) r3 (by omega)
          have := hno c
          rw [splitS_is.2 ⟨g1, g2, g3⟩] at this; cases this
        rw [a1, a2]
        simp only [cond_false, not_true_eq_false, decide_false, List.length_nil]
        rw [show decide ((0 : Int) < ((0 : Nat) : Int)) = false from rfl, decide_eq_false (show ¬ q.X < 0 by omega), decide_eq_false (show ¬ q.Y < 0 by omega), decide_eq_false (show ¬ q.W < 1 by omega), decide_eq_false (show ¬ q.H < 1 by omega), decide_eq_false (show ¬ 6 < q.W by omega), decide_eq_false (show ¬ 6 < q.H by omega)]
        simp only [cond_false, joinK]
        obtain ⟨v, g1, g2⟩ := loopE (F := fun n (v : List Label) j => f6_14 N L (q, (0 : Int)) (f6_c21 N) n v j) (k := f6_c21 N) 0 L.Labels.length (fun i v => v = (L.Labels.take i).filter (insideB q))
          (fun n v i _ hi hI => by
            subst hI
            have hx : L.Labels[i]? = some L.Labels[i] := by simp [hi]
            have hmem := List.getElem_mem hi
            generalize L.Labels[i] = x at hx hmem
            have ht : L.Labels.take (i + 1) = L.Labels.take i ++ [x] := by rw [List.take_add_one, hx]; rfl
            have hlf : ((L.Labels.take i).filter (insideB q)).length ≤ 30 := Nat.le_trans (List.length_filter_le _ _) (by simp; omega)
            refine ⟨_, rfl, ?_⟩
            rw [ht, List.filter_append]
            have red : f6_14 N L (q, (0 : Int)) (f6_c21 N) (n + 1) ((L.Labels.take i).filter (insideB q)) (i : Int) = bif insideB q x then ((app 32 ((L.Labels.take i).filter (insideB q)) [x]).bind fun x12 => f6_14 N L (q, (0 : Int)) (f6_c21 N) n x12 ((i + 1 : Nat) : Int)) else ((f35 N x q).bind fun x13 => bif x13 then (some (false)) else (f6_14 N L (q, (0 : Int)) (f6_c21 N) n ((L.Labels.take i).filter (insideB q)) ((i + 1 : Nat) : Int))) := by
              simp only [f6_14, f6_14b, decide_eq_true (show (i : Int) < (L.Labels.length : Int) by omega), cond_true, ix_nat, hx, Option.bind_some, W_nat (show i < 9223372036854775807 by omega), insideB]
              cases decide (q.X ≤ x.X) <;> cases decide (q.Y ≤ x.Y) <;> cases decide (W (x.X + x.W) ≤ W (q.X + q.W)) <;> cases decide (W (x.Y + x.H) ≤ W (q.Y + q.H)) <;> rfl
            rw [red]
            cases hin : insideB q x with
            | true =>
              rw [cond_true, app_ok (by simp at hlf ⊢; omega) (by simp at hlf ⊢; omega)]
              simp only [Option.bind_some, List.filter_cons, hin, if_true, List.filter_nil]
            | false =>
              obtain ⟨b, b1, b2⟩ := f35_eq (N := N) (x := x) (y := q) (V.laid x hmem) ⟨i1, i2, by omega, by omega, by omega, by omega⟩ (by omega)
              have hap : Apart2 x q := by
                rcases i5 x hmem with h | h
                · rw [hin] at h; cases h
                · exact h
              have hb : b = false := by
                cases b with
                | false => rfl
                | true => exact absurd hap (b2.1 rfl)
              rw [cond_false, b1, hb]
              simp [hin])
          (fun n v => by simp only [f6_14, f6_14b, decide_eq_false (show ¬ (L.Labels.length : Int) < (L.Labels.length : Int) by omega), cond_false]) N [] rfl (Nat.zero_le _) (by omega)
        rw [List.take_length] at g1
        subst g1
        refine Eq.trans g2 ?_
        unfold f6_c21
        simp only [joinK]
        have hfin : f6_c30 N (L.Labels.filter (insideB q)) = some true := by
          unfold f6_c30
          rw [decide_eq_true (show (3 : Int) < ((L.Labels.filter (insideB q)).length : Int) by omega), cond_true, hw]; rfl
        have hl30 : (L.Labels.filter (insideB q)).length ≤ 30 := Nat.le_trans (List.length_filter_le _ _) (by omega)
        obtain ⟨_, _, g3⟩ := loopE (F := fun n (_ : Unit) j => f6_22 N (L.Labels.filter (insideB q)) (f6_c30 N (L.Labels.filter (insideB q))) n j) (k := fun _ => f6_c30 N (L.Labels.filter (insideB q))) 0 12 (fun _ _ => True)
          (fun n _ i _ hi _ => by
            refine ⟨(), trivial, ?_⟩
            simp only [f6_22, f6_22b, decide_eq_true (show (i : Int) < 12 by omega), cond_true, f36_eq (N := N) (c := ⟨false, (i : Int)⟩) hpcq.laid hl30 (by omega), f36_eq (N := N) (c := ⟨true, (i : Int)⟩) hpcq.laid hl30 (by omega), Option.bind_some, hno, cond_false, W_nat (show i < 9223372036854775807 by omega)])
          (fun n _ => rfl) N () trivial (Nat.zero_le _) (by omega)
        exact Eq.trans g3 hfin
  unfold f6
  rw [hL]
  simp only [Option.bind_some, e1, f22_eq (N := N) (show L.Labels.length ≤ 30 by omega) (by omega), f24_eq (N := N) (show L.Labels.length ≤ 30 by omega) (by omega), joinK, hgo]
  by_cases h4 : (L.Labels.length : Int) < 4
  · rw [decide_eq_true h4, hcan4 (by omega)]; rfl
  · rw [decide_eq_false h4]; rfl
end Go.Vc
namespace Go.Vc
open Go.Proofs
set_option linter.unusedVariables false
set_option linter.unnecessarySimpa false
set_option linter.unusedSimpArgs false
def f9_c24 (N : Nat) (x2 : (List Cut) × Int) (x3 : (List Cut) × Int) (x4 : (List Cut) × Int) : Option (Bool) :=
 bif decide (¬ x2.2 = (0 : Int)) then ((f13 N ).bind fun x7 =>
 some (x7))
 else (bif decide (x3.2 = (0 : Int)) then (bif decide (x4.2 = (0 : Int)) then ((f13 N ).bind fun x8 =>
 some (x8))
 else (some (false)))
 else (some (false)))
def f9_c18 (N : Nat) (x1 : Layout) (x2 : (List Cut) × Int) (b310_2 : List Label) (b311_2 : List Label) (b410_2 : List Label) (b411_2 : List Label) : Option (Bool) :=
 (f22 N (Layout.mk x1.W x1.H b310_2)).bind fun x3 =>
 (f22 N (Layout.mk x1.W x1.H b311_2)).bind fun x4 =>
 (f22 N (Layout.mk x1.H x1.W b410_2)).bind fun x5 =>
 (f22 N (Layout.mk x1.W x1.H b411_2)).bind fun x6 =>
 joinK (f9_c24 N x2 x3 x4) fun k0 =>
 bif decide (¬ x2.2 = (0 : Int)) then (bif decide (¬ x2.2 = (14 : Int)) then (some (false))
 else (bif decide (¬ x3.2 = (0 : Int)) then (bif decide (¬ x3.2 = (14 : Int)) then (some (false))
 else (bif decide (¬ x4.2 = (0 : Int)) then (bif decide (¬ x4.2 = (14 : Int)) then (some (false))
 else (bif decide (¬ x5.2 = x2.2) then (some (false))
 else (bif decide (¬ x6.2 = x2.2) then (some (false))
 else k0)))
 else (bif decide (¬ x5.2 = x2.2) then (some (false))
 else (bif decide (¬ x6.2 = x2.2) then (some (false))
 else k0))))
 else (bif decide (¬ x4.2 = (0 : Int)) then (bif decide (¬ x4.2 = (14 : Int)) then (some (false))
 else (bif decide (¬ x5.2 = x2.2) then (some (false))
 else (bif decide (¬ x6.2 = x2.2) then (some (false))
 else k0)))
 else (bif decide (¬ x5.2 = x2.2) then (some (false))
 else (bif decide (¬ x6.2 = x2.2) then (some (false))
 else k0)))))
 else (bif decide (¬ x3.2 = (0 : Int)) then (bif decide (¬ x3.2 = (14 : Int)) then (some (false))
 else (bif decide (¬ x4.2 = (0 : Int)) then (bif decide (¬ x4.2 = (14 : Int)) then (some (false))
 else (bif decide (¬ x5.2 = x2.2) then (some (false))
 else (bif decide (¬ x6.2 = x2.2) then (some (false))
 else k0)))
 else (bif decide (¬ x5.2 = x2.2) then (some (false))
 else (bif decide (¬ x6.2 = x2.2) then (some (false))
 else k0))))
 else (bif decide (¬ x4.2 = (0 : Int)) then (bif decide (¬ x4.2 = (14 : Int)) then (some (false))
 else (bif decide (¬ x5.2 = x2.2) then (some (false))
 else (bif decide (¬ x6.2 = x2.2) then (some (false))
 else k0)))
 else (bif decide (¬ x5.2 = x2.2) then (some (false))
 else (bif decide (¬ x6.2 = x2.2) then (some (false))
 else k0))))
def f9_c10 (a1 : Int) (a2 : A4u8N) (x1 : Layout) (x2 : (List Cut) × Int) (v54 : Int) (b311_2 : List Label) (b410_2 : List Label) (b411_2 : List Label) (r6 : Int → (List Label) → (List Label) → (List Label) → (List Label) → Option (Bool)) (x9 : Label) (b310_2' : List Label) : Option (Bool) :=
 (app 32 [(Label.mk (W ((W (x1.W - x9.X)) - x9.W)) x9.Y x9.W x9.H)] b411_2).bind fun x10 =>
 (app 32 b410_2 [(Label.mk (W ((W (x1.H - x9.Y)) - x9.H)) x9.X x9.H x9.W)]).bind fun x11 =>
 (chk (decide (x9.W ≠ 0))).bind fun _ =>
 (chk (decide (x9.W ≠ 0))).bind fun _ =>
 (chk (decide (x9.H ≠ 0))).bind fun _ =>
 (chk (decide (x9.H ≠ 0))).bind fun _ =>
 (chk (decide ((W (x9.W - (Int.tmod a2.e0 x9.W))) ≠ 0))).bind fun _ =>
 (chk (decide ((W (x9.H - (Int.tmod a2.e1 x9.H))) ≠ 0))).bind fun _ =>
 (app 32 b311_2 [(Label.mk (W (x9.X + (Int.tmod a2.e0 x9.W))) (W (x9.Y + (Int.tmod a2.e1 x9.H))) (W ((W (x9.W - (Int.tmod a2.e0 x9.W))) - (Int.tmod a2.e2 (W (x9.W - (Int.tmod a2.e0 x9.W)))))) (W ((W (x9.H - (Int.tmod a2.e1 x9.H))) - (Int.tmod a2.e3 (W (x9.H - (Int.tmod a2.e1 x9.H)))))))]).bind fun x12 =>
 r6 (W (v54 + (1 : Int))) (b310_2') x12 x11 x10
def f9_6b (r6 : Int → (List Label) → (List Label) → (List Label) → (List Label) → Option (Bool)) (a1 : Int) (a2 : A4u8N) (x1 : Layout) (x2 : (List Cut) × Int) (k1 : (List Label) → (List Label) → (List Label) → (List Label) → Option (Bool)) (v54 : Int) (b310_2 : List Label) (b311_2 : List Label) (b410_2 : List Label) (b411_2 : List Label) : Option (Bool) :=
 bif decide (v54 < (List.length x1.Labels : Int)) then ((ix x1.Labels v54).bind fun x9 =>
 joinK (f9_c10 a1 a2 x1 x2 v54 b311_2 b410_2 b411_2 r6 x9) fun k2 =>
 (chk (decide (0 ≤ v54))).bind fun _ =>
 bif decide ((bitsI .and .u8 (Int.fdiv a1 (2 ^ (min (Int.toNat v54) 8))) (1 : Int)) = (0 : Int)) then ((app 32 b310_2 [x9]).bind fun x13 =>
 k2 x13)
 else (k2 b310_2))
 else (k1 b310_2 b311_2 b410_2 b411_2)
def f9_6 (a1 : Int) (a2 : A4u8N) (x1 : Layout) (x2 : (List Cut) × Int) (k1 : (List Label) → (List Label) → (List Label) → (List Label) → Option (Bool)) : Nat → Int → (List Label) → (List Label) → (List Label) → (List Label) → Option (Bool)
  | 0, _, _, _, _, _ => none
  | n + 1, v54, b310_2, b311_2, b410_2, b411_2 => f9_6b (f9_6 a1 a2 x1 x2 k1 n) a1 a2 x1 x2 k1 v54 b310_2 b311_2 b410_2 b411_2
def f9 (N : Nat) (a0 : Page) (a1 : Int) (a2 : A4u8N) : Option (Bool) :=
 (f32 N a0).bind fun x1 =>
 (f22 N x1).bind fun x2 =>
 joinK (f9_c18 N x1 x2) fun k1 =>
 f9_6 a1 a2 x1 x2 k1 N (0 : Int) [] [] [] []
end Go.Vc
